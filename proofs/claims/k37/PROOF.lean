import PyProof.Rows.All
import HandS.ForMost
import HandS.TupLe
import HandS.TupAny
import HandS.TupMul
import HandS.IsInst
import HandS.Zip
import HandS.Style
import HandS.Wide
import HandS.Deep
import PyProof.P3In
import PyProof.StrOps2
import PyProof.ListStr
import HandS.RaiseMore
import PyProof.Rows.StrCountLaw
import HandS.Defaults
import HandS.EndBits
import HandS.Head0
import HandS.Head1
import HandS.Head2
import HandS.HeadEnd
import HandS.HeadHook1
import HandS.HeadHook2
import HandS.TupSets
import HandS.SortRule
import HandS.SortInts
import KE.KDictPairs
import KE.KDictCopyH
import KE.KDictSum
import HandS.Text
import HandS.Iter
import HandS.SetFor
import HandS.Strs
import HandS.Set
import KE.GoesMore
import KE.SortData
import KE.DataMinMax
import PyProof.CollectStr
import HandS.Conv
import PySem.Challenge.RW_toyrails_k37_whole_numbers_with_the_root
set_option Elab.async false
set_option linter.all false
set_option maxRecDepth 100000
namespace G
open PySem PySem.Spec PyProof.Rows L2

/-! ### heaps -/
def Ex (H H' : Hp) : Prop := ∀ a o, H a = some o → H' a = some o
theorem Ex.refl (H : Hp) : Ex H H := fun _ _ h => h
theorem Ex.trans {H H1 H2 : Hp} (a : Ex H H1) (b : Ex H1 H2) : Ex H H2 := fun x o h => b x o (a x o h)
theorem Ex.new {H : Hp} {p : Addr} {o : HO} (h : H p = none) : Ex H (upd H p o) := fun a u e => by
  rw [upd_ne (ne_of_none e h)]; exact e
theorem Ex.mut {H H' : Hp} {p : Addr} {o : HO} (e : Ex H H') (h : H p = none) : Ex H (upd H' p o) := fun a u ha => by
  rw [upd_ne (ne_of_none ha h)]; exact e a u ha
theorem Ex.fresh {H H' : Hp} {p : Addr} (e : Ex H H') (h : H' p = none) : H p = none := by
  cases h1 : H p with
  | none => rfl
  | some o => rw [e p o h1] at h; cases h
theorem Ex.ne {H H' : Hp} {p : Addr} (e : Ex H H') (h : H p ≠ none) : H' p ≠ none := by
  cases h1 : H p with
  | none => exact absurd h1 h
  | some o => rw [e p o h1]; exact fun z => nomatch z
theorem ex_rd {H H' : Hp} {a : Addr} {u : HO} (e : Ex H H') (h : Rd H a u) : Rd H' a u := by
  rcases h with h | ⟨o, h⟩
  · exact Or.inl (e a _ h)
  · exact Or.inr ⟨o, e a _ h⟩
theorem ex_l {K : PySem.W.Frag} {H H' : Hp} {a : Addr} {xs : List V} (e : Ex H H') (h : SqL K H a xs) : SqL K H' a xs := by
  rcases h with h | h
  · exact Or.inl (ex_rd e h)
  · exact Or.inr h
theorem ex_t {K : PySem.W.Frag} {H H' : Hp} {a : Addr} {xs : List V} (e : Ex H H') (h : SqT K H a xs) : SqT K H' a xs := by
  rcases h with h | h
  · exact Or.inl (ex_rd e h)
  · exact Or.inr h

theorem kt_at {K : PySem.W.Frag} {H : Hp} {a : Addr} {xs : List V} (h : SqT K (fun _ => none) a xs) : SqT K H a xs := by
  rcases h with (h | ⟨o, h⟩) | h
  · cases h
  · cases h
  · exact .inr h
/-- the frozen heap G below the heap H; both grow; what is tracked and not frozen stays so -/
structure Gr (G H G' H' : Hp) : Prop where
  g : Ex G G'
  h : Ex H H'
  b : Ex G' H'
  n : ∀ a, H a ≠ none → G a = none → G' a = none
theorem Gr.refl {G H : Hp} (b : Ex G H) : Gr G H G H := ⟨.refl _, .refl _, b, fun _ _ h => h⟩
theorem Gr.trans {G H G1 H1 G2 H2 : Hp} (a : Gr G H G1 H1) (b : Gr G1 H1 G2 H2) : Gr G H G2 H2 :=
  ⟨a.g.trans b.g, a.h.trans b.h, b.b, fun x hx gx => b.n x (a.h.ne hx) (a.n x hx gx)⟩
/-- a new object, frozen -/
theorem Gr.new {G H : Hp} {p : Addr} {o : HO} (b : Ex G H) (hp : H p = none) : Gr G H (upd G p o) (upd H p o) :=
  ⟨.new (b.fresh hp), .new hp, fun a u e => by
    by_cases h : a = p
    · subst h; rw [upd_same] at e ⊢; exact e
    · rw [upd_ne h] at e ⊢; exact b a u e, fun a ha ga => by
    have h : a ≠ p := fun z => ha (z ▸ hp)
    rw [upd_ne h]; exact ga⟩
/-- a new object, not frozen -/
theorem Gr.newO {G H : Hp} {p : Addr} {o : HO} (b : Ex G H) (hp : H p = none) : Gr G H G (upd H p o) :=
  ⟨.refl _, .new hp, b.trans (.new hp), fun _ _ h => h⟩
/-- what was made since is frozen -/
theorem Gr.frz {G H G' H' : Hp} {p : Addr} {o : HO} (r : Gr G H G' H') (hp : H p = none) (hg : G' p = none) (ho : H' p = some o) : Gr G H (upd G' p o) H' :=
  ⟨r.g.trans (.new hg), r.h, fun a u e => by
    by_cases h : a = p
    · subst h; rw [upd_same] at e; cases e; exact ho
    · rw [upd_ne h] at e; exact r.b a u e, fun a ha ga => by
    have h : a ≠ p := fun z => ha (z ▸ hp)
    rw [upd_ne h]; exact r.n a ha ga⟩

/-! ### data -/
inductive D where
  | non | bl (b : Bool) | int (i : Int) | str (s : List Nat) | tup (xs : List D) | lst (xs : List D) | dK (kvs : List (D × D)) | dT (kvs : List (D × D)) | ty (n : String) | cup | any | scr (ns : List Int) | kt (xs : List D)

/-- the cup: two ints, not below 0, the second small -/
def cupφ (a : Addr) : Heap → Prop := fun h => ∃ (c d : Int) (t u : Tok) (n : Nat), 0 ≤ c ∧ c.natAbs < 2 ^ 1050000 ∧ 0 ≤ d ∧ d < 2 ^ 32 ∧ h.get? a = some { cls := .type "list", data := .seq #[.int c t, .int d u] n }

/-- a key as data -/
def kD : Key → D
  | .inl i => .int i
  | .inr x => .str x.cps.toList
/-- a text's code points -/
def sOk (s : List Nat) : Bool := s.all fun c => decide (c < 0x110000)
mutual
inductive Rep (K : PySem.W.Frag) (G : Hp) : D → V → Prop
  | non : Rep K G .non .non
  | bl (b : Bool) : Rep K G (.bl b) (.bl b)
  | int (i : Int) : Rep K G (.int i) (.int i)
  | str (s : List Nat) (h : sOk s = true) : Rep K G (.str s) (.str ⟨s.toArray⟩)
  | tup {ds : List D} {a : Addr} {vs : List V} (h : G a = some (.tup vs)) (r : RepL K G ds vs) : Rep K G (.tup ds) (.ref a)
  | kt {ds : List D} {a : Addr} {vs : List V} (h : SqT K (fun _ => none) a vs) (r : RepL K G ds vs) : Rep K G (.kt ds) (.ref a)
  | lst {ds : List D} {a : Addr} {vs : List V} (h : G a = some (.lst vs)) (r : RepL K G ds vs) : Rep K G (.lst ds) (.ref a)
  | scr {ns : List Int} {a : Addr} (h : SqL K G a (ns.map V.int)) : Rep K G (.scr ns) (.ref a)
  | dK {ks : List (D × D)} {a : Addr} {hs : List (Key × V)} (h : G a = some (.dK hs)) (r : RepK K G ks hs) : Rep K G (.dK ks) (.ref a)
  | dT {ks : List (D × D)} {a : Addr} {hs : List (List Key × V)} (h : G a = some (.dT hs)) (r : RepT K G ks hs) : Rep K G (.dT ks) (.ref a)
  | cup {a : Addr} (h : G a = some (.ext (cupφ a))) : Rep K G .cup (.ref a)
  | ty (n : String) : Rep K G (.ty n) (.ty n)
  | any (v : V) : Rep K G .any v
inductive RepL (K : PySem.W.Frag) (G : Hp) : List D → List V → Prop
  | nil : RepL K G [] []
  | cons {d : D} {v : V} {ds : List D} {vs : List V} (h : Rep K G d v) (r : RepL K G ds vs) : RepL K G (d :: ds) (v :: vs)
inductive RepK (K : PySem.W.Frag) (G : Hp) : List (D × D) → List (Key × V) → Prop
  | nil : RepK K G [] []
  | cons {k : Key} {d : D} {v : V} {ds : List (D × D)} {vs : List (Key × V)} (h : Rep K G d v) (r : RepK K G ds vs) : RepK K G ((kD k, d) :: ds) ((k, v) :: vs)
inductive RepT (K : PySem.W.Frag) (G : Hp) : List (D × D) → List (List Key × V) → Prop
  | nil : RepT K G [] []
  | cons {k : List Key} {d : D} {v : V} {ds : List (D × D)} {vs : List (List Key × V)} (h : Rep K G d v) (r : RepT K G ds vs) : RepT K G ((.tup (k.map kD), d) :: ds) ((k, v) :: vs)
end
section
variable {K : PySem.W.Frag} {G G' : Hp}
mutual
theorem Rep.mono (e : Ex G G') : ∀ {d : D} {v : V}, Rep K G d v → Rep K G' d v
  | _, _, .non => .non
  | _, _, .bl b => .bl b
  | _, _, .int i => .int i
  | _, _, .str s h => .str s h
  | _, _, .tup h r => .tup (e _ _ h) (RepL.mono e r)
  | _, _, .kt h r => .kt h (RepL.mono e r)
  | _, _, .lst h r => .lst (e _ _ h) (RepL.mono e r)
  | _, _, .scr h => .scr (ex_l e h)
  | _, _, .dK h r => .dK (e _ _ h) (RepK.mono e r)
  | _, _, .dT h r => .dT (e _ _ h) (RepT.mono e r)
  | _, _, .cup h => .cup (e _ _ h)
  | _, _, .ty n => .ty n
  | _, _, .any v => .any v
theorem RepL.mono (e : Ex G G') : ∀ {ds : List D} {vs : List V}, RepL K G ds vs → RepL K G' ds vs
  | _, _, .nil => .nil
  | _, _, .cons h r => .cons (Rep.mono e h) (RepL.mono e r)
theorem RepK.mono (e : Ex G G') : ∀ {ds : List (D × D)} {vs : List (Key × V)}, RepK K G ds vs → RepK K G' ds vs
  | _, _, .nil => .nil
  | _, _, .cons h r => .cons (Rep.mono e h) (RepK.mono e r)
theorem RepT.mono (e : Ex G G') : ∀ {ds : List (D × D)} {vs : List (List Key × V)}, RepT K G ds vs → RepT K G' ds vs
  | _, _, .nil => .nil
  | _, _, .cons h r => .cons (Rep.mono e h) (RepT.mono e r)
end
theorem RepL.len : ∀ {ds : List D} {vs : List V}, RepL K G ds vs → ds.length = vs.length
  | _, _, .nil => rfl
  | _, _, .cons _ r => congrArg (· + 1) r.len
theorem RepL.get : ∀ {ds : List D} {vs : List V} {i : Nat} {d : D}, RepL K G ds vs → ds[i]? = some d → ∃ v, vs[i]? = some v ∧ Rep K G d v
  | _, _, _, _, .nil, e => by simp at e
  | _, _, 0, _, .cons h _, e => by simp at e; subst e; exact ⟨_, rfl, h⟩
  | _, _, i + 1, _, .cons _ r, e => by
    obtain ⟨v, h1, h2⟩ := r.get (i := i) (by simpa using e)
    exact ⟨v, by simpa using h1, h2⟩
theorem RepL.app : ∀ {ds es : List D} {vs us : List V}, RepL K G ds vs → RepL K G es us → RepL K G (ds ++ es) (vs ++ us)
  | _, _, _, _, .nil, s => s
  | _, _, _, _, .cons h r, s => .cons h (r.app s)
theorem RepL.one {d : D} {v : V} (h : Rep K G d v) : RepL K G [d] [v] := .cons h .nil
theorem RepL.take : ∀ {ds : List D} {vs : List V} (n : Nat), RepL K G ds vs → RepL K G (ds.take n) (vs.take n)
  | _, _, 0, _ => .nil
  | _, _, _ + 1, .nil => .nil
  | _, _, n + 1, .cons h r => .cons h (r.take n)
theorem RepL.drop : ∀ {ds : List D} {vs : List V} (n : Nat), RepL K G ds vs → RepL K G (ds.drop n) (vs.drop n)
  | _, _, 0, r => r
  | _, _, _ + 1, .nil => .nil
  | _, _, n + 1, .cons _ r => r.drop n
theorem RepL.set : ∀ {ds : List D} {vs : List V} {d : D} {v : V} (i : Nat), RepL K G ds vs → Rep K G d v → RepL K G (ds.set i d) (vs.set i v)
  | _, _, _, _, _, .nil, _ => .nil
  | _, _, _, _, 0, .cons _ r, h => .cons h r
  | _, _, _, _, i + 1, .cons q r, h => .cons q (r.set i h)
theorem RepL.rev : ∀ {ds : List D} {vs : List V}, RepL K G ds vs → RepL K G ds.reverse vs.reverse
  | _, _, .nil => .nil
  | _, _, .cons h r => by
    rw [List.reverse_cons, List.reverse_cons]
    exact r.rev.app (.one h)
theorem RepL.split : ∀ {ds : List D} {vs us : List V}, RepL K G ds (vs ++ us) → ∃ d1 d2, ds = d1 ++ d2 ∧ RepL K G d1 vs ∧ RepL K G d2 us
  | ds, [], us, r => ⟨[], ds, rfl, .nil, r⟩
  | _, v :: vs, us, .cons h r => by
    obtain ⟨d1, d2, rfl, h1, h2⟩ := RepL.split (vs := vs) r
    exact ⟨_ :: d1, d2, rfl, .cons h h1, h2⟩
end
/-- lent: the outer container stands in H, what is in it in G -/
inductive RepB (K : PySem.W.Frag) (G H : Hp) : D → V → Prop
  | lst {ds : List D} {a : Addr} {vs : List V} (h : H a = some (.lst vs)) (r : RepL K G ds vs) : RepB K G H (.lst ds) (.ref a)
  | dK {ks : List (D × D)} {a : Addr} {hs : List (Key × V)} (h : H a = some (.dK hs)) (r : RepK K G ks hs) : RepB K G H (.dK ks) (.ref a)
  | dT {ks : List (D × D)} {a : Addr} {hs : List (List Key × V)} (h : H a = some (.dT hs)) (r : RepT K G ks hs) : RepB K G H (.dT ks) (.ref a)
  | rep {d : D} {v : V} (h : Rep K G d v) : RepB K G H d v
/-- owned: at a, not frozen -/
inductive Own (K : PySem.W.Frag) (G H : Hp) (a : Addr) : D → Prop
  | lst {ds : List D} {vs : List V} (h : H a = some (.lst vs)) (r : RepL K G ds vs) : Own K G H a (.lst ds)
  | dK {ks : List (D × D)} {hs : List (Key × V)} (h : H a = some (.dK hs)) (r : RepK K G ks hs) : Own K G H a (.dK ks)
  | dT {ks : List (D × D)} {hs : List (List Key × V)} (h : H a = some (.dT hs)) (r : RepT K G ks hs) : Own K G H a (.dT ks)
section
variable {K : PySem.W.Frag} {G H G' H' : Hp} {d : D} {v : V} {a : Addr}
theorem RepB.mono (r : Gr G H G' H') (h : RepB K G H d v) : RepB K G' H' d v := by
  cases h with
  | lst h s => exact .lst (r.h _ _ h) (s.mono r.g)
  | dK h s => exact .dK (r.h _ _ h) (s.mono r.g)
  | dT h s => exact .dT (r.h _ _ h) (s.mono r.g)
  | rep h => exact .rep (h.mono r.g)
theorem Own.mono (r : Gr G H G' H') (h : Own K G H a d) : Own K G' H' a d := by
  cases h with
  | lst h s => exact .lst (r.h _ _ h) (s.mono r.g)
  | dK h s => exact .dK (r.h _ _ h) (s.mono r.g)
  | dT h s => exact .dT (r.h _ _ h) (s.mono r.g)
theorem Own.ne (h : Own K G H a d) : H a ≠ none := by
  cases h with
  | lst h s => rw [h]; exact fun z => nomatch z
  | dK h s => rw [h]; exact fun z => nomatch z
  | dT h s => rw [h]; exact fun z => nomatch z
theorem Own.lent (h : Own K G H a d) : RepB K G H d (.ref a) := by
  cases h with
  | lst h s => exact .lst h s
  | dK h s => exact .dK h s
  | dT h s => exact .dT h s
/-- an owned thing is frozen -/
theorem Own.frz (h : Own K G H a d) (hg : G a = none) : ∃ o, H a = some o ∧ Rep K (upd G a o) d (.ref a) := by
  cases h with
  | lst h s => exact ⟨_, h, .lst upd_same (s.mono (.new hg))⟩
  | dK h s => exact ⟨_, h, .dK upd_same (s.mono (.new hg))⟩
  | dT h s => exact ⟨_, h, .dT upd_same (s.mono (.new hg))⟩
end

end G
set_option Elab.async false
set_option linter.all false
set_option maxRecDepth 100000
namespace G
open PySem PySem.Spec PyProof.Rows L2

/-! ### slots -/
inductive Sl where | un | fz (d : D) | ow (d : D)
abbrev Env := List Sl
abbrev M (α : Type) := (α → Prop) → Prop
abbrev EM := Env → M D
def getS : Env → Nat → Sl
  | [], _ => .un
  | s :: _, 0 => s
  | _ :: r, n + 1 => getS r n
def setS : Env → Nat → Sl → Env
  | [], _, _ => []
  | _ :: r, 0, s => s :: r
  | t :: r, n + 1, s => t :: setS r n s
theorem getS_eq : ∀ (env : Env) (i : Nat), getS env i = (env[i]?).getD .un
  | [], _ => rfl
  | _ :: _, 0 => rfl
  | _ :: r, n + 1 => by rw [getS, getS_eq r n]; simp
theorem setS_eq : ∀ (env : Env) (i : Nat) (s : Sl), setS env i s = env.set i s
  | [], _, _ => rfl
  | _ :: _, 0, _ => rfl
  | _ :: r, n + 1, s => by rw [setS, setS_eq r n s]; rfl
theorem setS_len (env : Env) (i : Nat) (s : Sl) : (setS env i s).length = env.length := by rw [setS_eq, List.length_set]
theorem getS_at {env : Env} {i : Nat} {s : Sl} (h : getS env i = s) (hs : s ≠ .un) : env[i]? = some s := by
  rw [getS_eq] at h
  cases e : env[i]? with
  | none => rw [e] at h; exact absurd h.symm hs
  | some t => rw [e] at h; exact congrArg some h

inductive SlOk (K : PySem.W.Frag) (H0 G H : Hp) : Sl → Option (Option V) → Prop
  | un {o : Option (Option V)} : SlOk K H0 G H .un o
  | fz {d : D} {v : V} (h : Rep K G d v) : SlOk K H0 G H (.fz d) (some (some v))
  | ow {d : D} {a : Addr} (h0 : H0 a = none) (hg : G a = none) (h : Own K G H a d) : SlOk K H0 G H (.ow d) (some (some (.ref a)))
/-- the slots stand for env; G0, H0: the heaps at the def's entry -/
structure Ok (K : PySem.W.Frag) (G0 H0 G H : Hp) (σ : L2.St) (env : Env) : Prop where
  gr : Gr G0 H0 G H
  len : σ.length = env.length
  sl : ∀ (i : Nat) (s : Sl), env[i]? = some s → SlOk K H0 G H s σ[i]?
  dj : ∀ (i j : Nat) (d e : D) (a : Addr), env[i]? = some (.ow d) → env[j]? = some (.ow e) → σ[i]? = some (some (.ref a)) → σ[j]? = some (some (.ref a)) → i = j
section
variable {K : PySem.W.Frag} {G0 H0 G H G' H' : Hp} {σ : L2.St} {env : Env}
theorem SlOk.mono {s : Sl} {o : Option (Option V)} (r : Gr G H G' H') (h : SlOk K H0 G H s o) : SlOk K H0 G' H' s o := by
  cases h with
  | un => exact .un
  | fz h => exact .fz (h.mono r.g)
  | ow h0 hg h => exact .ow h0 (r.n _ h.ne hg) (h.mono r)
theorem Ok.mono (k : Ok K G0 H0 G H σ env) (r : Gr G H G' H') : Ok K G0 H0 G' H' σ env :=
  ⟨k.gr.trans r, k.len, fun i s e => (k.sl i s e).mono r, k.dj⟩
theorem Ok.fz (k : Ok K G0 H0 G H σ env) {i : Nat} {d : D} (e : getS env i = .fz d) : ∃ v, σ[i]? = some (some v) ∧ Rep K G d v := by
  have h := k.sl i _ (getS_at e (fun z => nomatch z))
  generalize σ[i]? = o at h
  cases h with
  | fz h => exact ⟨_, rfl, h⟩
theorem Ok.ow (k : Ok K G0 H0 G H σ env) {i : Nat} {d : D} (e : getS env i = .ow d) : ∃ a, σ[i]? = some (some (.ref a)) ∧ H0 a = none ∧ G a = none ∧ Own K G H a d := by
  have h := k.sl i _ (getS_at e (fun z => nomatch z))
  generalize σ[i]? = o at h
  cases h with
  | ow h0 hg h => exact ⟨_, rfl, h0, hg, h⟩
/-- a slot is set to what is frozen -/
theorem Ok.set (k : Ok K G0 H0 G H σ env) {i : Nat} {d : D} {v : V} (h : Rep K G d v) : Ok K G0 H0 G H (σ.set i (some v)) (setS env i (.fz d)) := by
  rw [setS_eq]
  refine ⟨k.gr, by rw [List.length_set, List.length_set]; exact k.len, fun j s e => ?_, fun j l d' e' a e1 e2 e3 e4 => ?_⟩
  · by_cases hj : i = j
    · subst hj
      have hl : i < env.length := by
        have := (List.getElem?_eq_some_iff.mp e).1
        rwa [List.length_set] at this
      rw [List.getElem?_set_self hl] at e
      rw [List.getElem?_set_self (by rw [k.len]; exact hl)]
      cases e
      exact .fz h
    · rw [List.getElem?_set_ne hj] at e ⊢
      exact k.sl j s e
  · have h1 : i ≠ j := fun z => by
      subst z
      have hl : i < env.length := by
        have := (List.getElem?_eq_some_iff.mp e1).1
        rwa [List.length_set] at this
      rw [List.getElem?_set_self hl] at e1; cases e1
    have h2 : i ≠ l := fun z => by
      subst z
      have hl : i < env.length := by
        have := (List.getElem?_eq_some_iff.mp e2).1
        rwa [List.length_set] at this
      rw [List.getElem?_set_self hl] at e2; cases e2
    rw [List.getElem?_set_ne h1] at e1 e3
    rw [List.getElem?_set_ne h2] at e2 e4
    exact k.dj j l d' e' a e1 e2 e3 e4
/-- a slot is set to a new thing that it owns -/
theorem Ok.setO (k : Ok K G0 H0 G H σ env) {i : Nat} {d : D} {a : Addr} (h0 : H0 a = none) (hg : G a = none) (hn : ∀ (j : Nat) (e : D), j ≠ i → env[j]? = some (.ow e) → σ[j]? ≠ some (some (.ref a))) (h : Own K G H a d) : Ok K G0 H0 G H (σ.set i (some (.ref a))) (setS env i (.ow d)) := by
  rw [setS_eq]
  have lt : ∀ {j : Nat} {s : Sl}, (env.set i (.ow d))[j]? = some s → j < env.length := fun {j s} e => by
    have := (List.getElem?_eq_some_iff.mp e).1
    rwa [List.length_set] at this
  refine ⟨k.gr, by rw [List.length_set, List.length_set]; exact k.len, fun j s e => ?_, fun j l d' e' b e1 e2 e3 e4 => ?_⟩
  · by_cases hj : i = j
    · subst hj
      have hl := lt e
      rw [List.getElem?_set_self hl] at e
      rw [List.getElem?_set_self (by rw [k.len]; exact hl)]
      cases e
      exact .ow h0 hg h
    · rw [List.getElem?_set_ne hj] at e ⊢
      exact k.sl j s e
  · by_cases h1 : i = j
    · subst h1
      by_cases h2 : i = l
      · exact h2
      · rw [List.getElem?_set_self (by rw [k.len]; exact lt e1)] at e3
        rw [List.getElem?_set_ne h2] at e2 e4
        cases e3
        exact absurd e4 (hn l e' (Ne.symm h2) e2)
    · by_cases h2 : i = l
      · subst h2
        rw [List.getElem?_set_self (by rw [k.len]; exact lt e2)] at e4
        rw [List.getElem?_set_ne h1] at e1 e3
        cases e4
        exact absurd e3 (hn j d' (Ne.symm h1) e1)
      · rw [List.getElem?_set_ne h1] at e1 e3
        rw [List.getElem?_set_ne h2] at e2 e4
        exact k.dj j l d' e' b e1 e2 e3 e4
/-- .. one that H did not know before -/
theorem Ok.setN (k : Ok K G0 H0 G H σ env) (r : Gr G H G' H') {i : Nat} {d : D} {a : Addr} (hH : H a = none) (hg : G' a = none) (h : Own K G' H' a d) : Ok K G0 H0 G' H' (σ.set i (some (.ref a))) (setS env i (.ow d)) :=
  (k.mono r).setO (k.gr.h.fresh hH) hg (fun j e _ he hs => by
    have q := k.sl j _ he
    rw [hs] at q
    cases q with
    | ow _ _ q => exact q.ne hH) h
/-- an owned slot's thing is frozen -/
theorem Ok.frz (k : Ok K G0 H0 G H σ env) {i : Nat} {d : D} (e : getS env i = .ow d) : ∃ G', Gr G0 H0 G' H ∧ Ok K G0 H0 G' H σ (setS env i (.fz d)) := by
  obtain ⟨a, hs, h0, hg, ho⟩ := k.ow e
  have ei := getS_at e (fun z => nomatch z)
  obtain ⟨o, hH, hr⟩ := ho.frz hg
  have g : Gr G0 H0 (upd G a o) H := k.gr.frz h0 hg hH
  refine ⟨upd G a o, g, ?_⟩
  rw [setS_eq]
  refine ⟨g, by rw [List.length_set]; exact k.len, fun j s e1 => ?_, fun j l d' e' b e1 e2 e3 e4 => ?_⟩
  · by_cases hj : i = j
    · subst hj
      rw [List.getElem?_set_self (List.getElem?_eq_some_iff.mp ei).1] at e1
      cases e1
      rw [hs]
      exact .fz hr
    · rw [List.getElem?_set_ne hj] at e1
      have q := k.sl j s e1
      generalize hq : σ[j]? = oj at q
      cases q with
      | un => exact .un
      | fz h => exact .fz (h.mono (.new hg))
      | @ow dd b b0 bg h =>
        have hb : b ≠ a := fun z => by
          subst z
          exact hj (k.dj i j d dd b ei e1 hs hq)
        refine .ow b0 (by rw [upd_ne hb]; exact bg) ?_
        cases h with
        | lst h s => exact .lst h (s.mono (.new hg))
        | dK h s => exact .dK h (s.mono (.new hg))
        | dT h s => exact .dT h (s.mono (.new hg))
  · have h1 : i ≠ j := fun z => by
      subst z
      rw [List.getElem?_set_self (List.getElem?_eq_some_iff.mp ei).1] at e1; cases e1
    have h2 : i ≠ l := fun z => by
      subst z
      rw [List.getElem?_set_self (List.getElem?_eq_some_iff.mp ei).1] at e2; cases e2
    rw [List.getElem?_set_ne h1] at e1
    rw [List.getElem?_set_ne h2] at e2
    exact k.dj j l d' e' b e1 e2 e3 e4
/-- an owned slot's thing has changed -/
theorem Ok.put (k : Ok K G0 H0 G H σ env) {i : Nat} {d d' : D} {a : Addr} {o : HO} (e : getS env i = .ow d) (hs : σ[i]? = some (some (.ref a))) (h0 : H0 a = none) (hg : G a = none) (h : Own K G (upd H a o) a d') : Ok K G0 H0 G (upd H a o) σ (setS env i (.ow d')) := by
  have ei := getS_at e (fun z => nomatch z)
  have g : Gr G0 H0 G (upd H a o) := ⟨k.gr.g, k.gr.h.mut h0, k.gr.b.mut hg, k.gr.n⟩
  rw [setS_eq]
  have eq : ∀ {j : Nat} {dd : D}, (env.set i (.ow d'))[j]? = some (.ow dd) → ∃ d2, env[j]? = some (.ow d2) := fun {j dd} e1 => by
    by_cases hj : i = j
    · subst hj; exact ⟨_, ei⟩
    · rw [List.getElem?_set_ne hj] at e1; exact ⟨_, e1⟩
  refine ⟨g, by rw [List.length_set]; exact k.len, fun j s e1 => ?_, fun j l d1 e' b e1 e2 e3 e4 => ?_⟩
  · by_cases hj : i = j
    · subst hj
      rw [List.getElem?_set_self (List.getElem?_eq_some_iff.mp ei).1] at e1
      cases e1
      rw [hs]
      exact .ow h0 hg h
    · rw [List.getElem?_set_ne hj] at e1
      have q := k.sl j s e1
      generalize hq : σ[j]? = oj at q
      cases q with
      | un => exact .un
      | fz h => exact .fz h
      | @ow dd b b0 bg h =>
        have hb : b ≠ a := fun z => by
          subst z
          exact hj (k.dj i j d dd b ei e1 hs hq)
        refine .ow b0 bg ?_
        cases h with
        | lst h s => exact .lst (by rw [upd_ne hb]; exact h) s
        | dK h s => exact .dK (by rw [upd_ne hb]; exact h) s
        | dT h s => exact .dT (by rw [upd_ne hb]; exact h) s
  · obtain ⟨d2, z1⟩ := eq e1
    obtain ⟨d3, z2⟩ := eq e2
    exact k.dj j l d2 d3 b z1 z2 e3 e4
/-- a slot is forgotten -/
theorem Ok.drop (k : Ok K G0 H0 G H σ env) (i : Nat) : Ok K G0 H0 G H (σ.set i none) (setS env i .un) := by
  rw [setS_eq]
  have lt : ∀ {j : Nat} {s : Sl}, (env.set i .un)[j]? = some s → j < env.length := fun {j s} e => by
    have := (List.getElem?_eq_some_iff.mp e).1
    rwa [List.length_set] at this
  have ne : ∀ {j : Nat} {d : D}, (env.set i .un)[j]? = some (.ow d) → i ≠ j := fun {j d} e z => by
    subst z
    rw [List.getElem?_set_self (lt e)] at e; cases e
  refine ⟨k.gr, by rw [List.length_set, List.length_set]; exact k.len, fun j s e => ?_, fun j l d' e' b e1 e2 e3 e4 => ?_⟩
  · by_cases hj : i = j
    · subst hj
      rw [List.getElem?_set_self (lt e)] at e
      cases e
      exact .un
    · rw [List.getElem?_set_ne hj] at e ⊢
      exact k.sl j s e
  · have h1 := ne e1
    have h2 := ne e2
    rw [List.getElem?_set_ne h1] at e1 e3
    rw [List.getElem?_set_ne h2] at e2 e4
    exact k.dj j l d' e' b e1 e2 e3 e4
end

/-! ### what an expression means -/
def tG (K : PySem.W.Frag) (m : EM) : TE := fun σ H Q => ∃ G0 H0 G env P, Ok K G0 H0 G H σ env ∧ m env P ∧ ∀ d v G' H', P d → Gr G H G' H' → Rep K G' d v → Q v H'
def tB (K : PySem.W.Frag) (m : EM) : TE := fun σ H Q => ∃ G0 H0 G env P, Ok K G0 H0 G H σ env ∧ m env P ∧ ∀ d v G' H', P d → Gr G H G' H' → RepB K G' H' d v → Q v H'
def tF (K : PySem.W.Frag) (m : EM) : TE := fun σ H Q => ∃ G0 H0 G env P, Ok K G0 H0 G H σ env ∧ m env P ∧ ∀ d a G' H', P d → Gr G H G' H' → H a = none → G' a = none → Own K G' H' a d → Q (.ref a) H'
def tGT (K : PySem.W.Frag) (m : Env → M Bool) : TT := fun σ H Q => ∃ G0 H0 G env P, Ok K G0 H0 G H σ env ∧ m env P ∧ ∀ b G' H', P b → Gr G H G' H' → Q b H'
inductive RepBL (K : PySem.W.Frag) (G H : Hp) : List D → List V → Prop
  | nil : RepBL K G H [] []
  | cons {d : D} {v : V} {ds : List D} {vs : List V} (h : RepB K G H d v) (r : RepBL K G H ds vs) : RepBL K G H (d :: ds) (v :: vs)
def tGA (K : PySem.W.Frag) (m : Env → M (List D)) : TA := fun σ H Q => ∃ G0 H0 G env P, Ok K G0 H0 G H σ env ∧ m env P ∧ ∀ ds vs G' H', P ds → Gr G H G' H' → RepL K G' ds vs → Q vs H'
def tBA (K : PySem.W.Frag) (m : Env → M (List D)) : TA := fun σ H Q => ∃ G0 H0 G env P, Ok K G0 H0 G H σ env ∧ m env P ∧ ∀ ds vs G' H', P ds → Gr G H G' H' → RepBL K G' H' ds vs → Q vs H'
abbrev GE (X : Cx) (e : Expr) (m : EM) : Prop := PE X e (tG X.K m)
abbrev BE (X : Cx) (e : Expr) (m : EM) : Prop := PE X e (tB X.K m)
abbrev FE (X : Cx) (e : Expr) (m : EM) : Prop := PE X e (tF X.K m)
abbrev GT (X : Cx) (e : Expr) (m : Env → M Bool) : Prop := PT X e (tGT X.K m)
abbrev GW (X : Cx) (e : Expr) (m : Env → M Bool) : Prop := PW X e (tGT X.K m)
abbrev GA (X : Cx) (es : List Expr) (m : Env → M (List D)) : Prop := PA X es (tGA X.K m)
abbrev BA (X : Cx) (es : List Expr) (m : Env → M (List D)) : Prop := PA X es (tBA X.K m)

section
variable {X : Cx} {e a b c : Expr} {es : List Expr} {t t' : TE} {m n l : EM} {pos : Pos}
theorem pe_imp (h : PE X e t) (k : ∀ σ H Q, t' σ H Q → t σ H Q) : PE X e t' := ⟨fun pins s σ H Q I q => h.run pins s σ H Q I (k σ H Q q)⟩
theorem pt_imp {t t' : TT} (h : PT X e t) (k : ∀ σ H Q, t' σ H Q → t σ H Q) : PT X e t' := ⟨fun pins s σ H Q I q => h.run pins s σ H Q I (k σ H Q q)⟩
theorem pw_imp {t t' : TT} (h : PW X e t) (k : ∀ σ H Q, t' σ H Q → t σ H Q) : PW X e t' := ⟨fun wh pins s σ H Q I q => h.run wh pins s σ H Q I (k σ H Q q)⟩
theorem pa_imp {t t' : TA} (h : PA X es t) (k : ∀ σ H Q, t' σ H Q → t σ H Q) : PA X es t' := ⟨fun ps pins s σ H Q I q => h.run ps pins s σ H Q I (k σ H Q q)⟩

theorem ge_fe (h : FE X e m) : GE X e m := pe_imp h fun σ H Q ⟨G0, H0, G, env, P, ok, hm, k⟩ =>
  ⟨G0, H0, G, env, P, ok, hm, fun d a G' H' p r ha hg o => by
    obtain ⟨ob, h1, h2⟩ := o.frz hg
    exact k d (.ref a) _ _ p (r.frz ha hg h1) h2⟩
theorem be_ge (h : GE X e m) : BE X e m := pe_imp h fun σ H Q ⟨G0, H0, G, env, P, ok, hm, k⟩ =>
  ⟨G0, H0, G, env, P, ok, hm, fun d v G' H' p r h => k d v G' H' p r (.rep h)⟩
theorem be_fe (h : FE X e m) : BE X e m := be_ge (ge_fe h)

/-! ### names and constants -/
def eVar (i : Nat) : EM := fun env P => match getS env i with | .fz d => P d | _ => False
def eVarB (i : Nat) : EM := fun env P => match getS env i with | .fz d => P d | .ow d => P d | .un => False
def eC (d : D) : EM := fun _ P => P d
theorem ge_var (i : Nat) {x : Str} (hN : X.N[i]? = some x := by rfl) (hv : Vis X.env.scope x := by first | exact Or.inl rfl | exact Or.inr (Or.inl rfl) | exact Or.inr (Or.inr rfl)) (hd : (x == ("__debug__" : Str)) = false := by decide)
    (hcd : (x == ("__classdict__" : Str)) = false := by decide) : GE X (.Name x pos) (eVar i) := pe_imp (pe_var hN hv hd hcd) fun σ H Q ⟨G0, H0, G, env, P, ok, hm, k⟩ => by
  unfold eVar at hm
  split at hm
  · rename_i d e
    obtain ⟨v, h1, h2⟩ := ok.fz e
    exact ⟨v, h1, k d v G H hm (.refl ok.gr.b) h2⟩
  · exact hm.elim
theorem be_var (i : Nat) {x : Str} (hN : X.N[i]? = some x := by rfl) (hv : Vis X.env.scope x := by first | exact Or.inl rfl | exact Or.inr (Or.inl rfl) | exact Or.inr (Or.inr rfl)) (hd : (x == ("__debug__" : Str)) = false := by decide)
    (hcd : (x == ("__classdict__" : Str)) = false := by decide) : BE X (.Name x pos) (eVarB i) := pe_imp (pe_var hN hv hd hcd) fun σ H Q ⟨G0, H0, G, env, P, ok, hm, k⟩ => by
  unfold eVarB at hm
  split at hm
  · rename_i d e
    obtain ⟨v, h1, h2⟩ := ok.fz e
    exact ⟨v, h1, k d v G H hm (.refl ok.gr.b) (.rep h2)⟩
  · rename_i d e
    obtain ⟨a, h1, _, _, h2⟩ := ok.ow e
    exact ⟨_, h1, k d _ G H hm (.refl ok.gr.b) h2.lent⟩
  · exact hm.elim
/-- a constant, by what stands for it in every heap -/
theorem ge_c {d : D} {v : V} (h : PE X e (tC v)) (r : ∀ G, Rep X.K G d v) : GE X e (eC d) := pe_imp h fun σ H Q ⟨G0, H0, G, env, P, ok, hm, k⟩ => k d v G H hm (.refl ok.gr.b) (r G)
theorem ge_int {i j} : GE X (.Constant (.int i) j pos) (eC (.int i)) := ge_c pe_int fun _ => .int i
theorem ge_bl {b j} : GE X (.Constant (.bool b) j pos) (eC (.bl b)) := ge_c pe_bl fun _ => .bl b
theorem ge_non {j} : GE X (.Constant .none j pos) (eC .non) := ge_c pe_non fun _ => .non
theorem ge_str {x j} (s : List Nat) (h : x = ⟨s.toArray⟩ := by rfl) (ho : sOk s = true := by decide) : GE X (.Constant (.str x) j pos) (eC (.str s)) := ge_c pe_str fun _ => by rw [h]; exact .str s ho
theorem ge_glob {x : Str} {d : D} {v : V} {u : Value} (hg : Gl X x) (hm : X.mg x = some u) (r : RelV v u) (h : ∀ G, Rep X.K G d v) (hd : (x == ("__debug__" : Str)) = false := by decide) : GE X (.Name x pos) (eC d) := ge_c (pe_glob hg hm r hd) h
theorem ge_ty {x : Str} (T : String) (hm : X.mg x = none) (hg : Gl X x := by rfl) (hv : bootBuiltins x = some (.type T) := by decide +kernel) (hn : x ≠ "__name__" := by decide) (hd : (x == ("__debug__" : Str)) = false := by decide) : GE X (.Name x pos) (eC (.ty T)) := ge_c (pe_bltn (v := .ty T) hg hm hv rfl hn hd) fun _ => .ty T

/-! ### operators -/
def eBin (f : D → D → M D) (a b : EM) : EM := fun env P => a env fun x => b env fun y => f x y P
def eUn (f : D → M D) (a : EM) : EM := fun env P => a env fun x => f x P
/-- what an operator does to data -/
def rG2 (K : PySem.W.Frag) (f : D → D → M D) : R2 := fun x y H Q => ∃ G d e P, Ex G H ∧ RepB K G H d x ∧ RepB K G H e y ∧ f d e P ∧ ∀ r v G' H', P r → Gr G H G' H' → Rep K G' r v → Q v H'
def rG1 (K : PySem.W.Frag) (f : D → M D) : V → Hp → VK → Prop := fun x H Q => ∃ G d P, Ex G H ∧ RepB K G H d x ∧ f d P ∧ ∀ r v G' H', P r → Gr G H G' H' → Rep K G' r v → Q v H'
/-- .. with a new container -/
def rF2 (K : PySem.W.Frag) (f : D → D → M D) : R2 := fun x y H Q => ∃ G d e P, Ex G H ∧ RepB K G H d x ∧ RepB K G H e y ∧ f d e P ∧ ∀ r a G' H', P r → Gr G H G' H' → H a = none → G' a = none → Own K G' H' a r → Q (.ref a) H'
theorem two {f : D → D → M D} {r : R2} {R : D → V → Hp → Hp → Hp → Hp → Prop} (hr : ∀ G H x y Q d e P, Ex G H → RepB X.K G H d x → RepB X.K G H e y → f d e P → (∀ r v G' H', P r → Gr G H G' H' → R r v G H G' H' → Q v H') → r x y H Q)
    (hR : ∀ {d v G H G1 H1 G' H'}, Gr G H G1 H1 → R d v G1 H1 G' H' → R d v G H G' H') :
    ∀ σ H Q, (∃ G0 H0 G env P, Ok X.K G0 H0 G H σ env ∧ eBin f m n env P ∧ ∀ d v G' H', P d → Gr G H G' H' → R d v G H G' H' → Q v H') → tOp r (tB X.K m) (tB X.K n) σ H Q :=
  fun σ H Q ⟨G0, H0, G, env, P, ok, hm, k⟩ => ⟨G0, H0, G, env, _, ok, hm, fun d v G1 H1 hP r1 b1 => ⟨G0, H0, G1, env, _, ok.mono r1, hP, fun e u G2 H2 hP2 r2 b2 =>
    hr G2 H2 v u Q d e P r2.b (b1.mono r2) b2 hP2 fun z w G3 H3 p3 r3 q3 => k z w G3 H3 p3 ((r1.trans r2).trans r3) (hR (r1.trans r2) q3)⟩⟩
abbrev RR (K : PySem.W.Frag) : D → V → Hp → Hp → Hp → Hp → Prop := fun d v _ _ G' _ => Rep K G' d v
abbrev RF (K : PySem.W.Frag) : D → V → Hp → Hp → Hp → Hp → Prop := fun d v _ H G' H' => ∃ a, v = .ref a ∧ H a = none ∧ G' a = none ∧ Own K G' H' a d
theorem two_g {f : D → D → M D} : ∀ σ H Q, tG X.K (eBin f m n) σ H Q → tOp (rG2 X.K f) (tB X.K m) (tB X.K n) σ H Q := fun σ H Q h =>
  two (X := X) (R := RR X.K) (fun G H x y Q d e P a b c p q => ⟨G, d, e, P, a, b, c, p, q⟩) (fun _ q => q) σ H Q h
theorem two_f {f : D → D → M D} : ∀ σ H Q, tF X.K (eBin f m n) σ H Q → tOp (rF2 X.K f) (tB X.K m) (tB X.K n) σ H Q := fun σ H Q ⟨G0, H0, G, env, P, ok, hm, k⟩ =>
  two (X := X) (R := RF X.K) (fun G H x y Q d e P a b c p q => ⟨G, d, e, P, a, b, c, p, fun r a G' H' p' g h1 h2 h3 => q r _ G' H' p' g ⟨a, rfl, h1, h2, h3⟩⟩)
    (fun r ⟨a, h0, h1, h2, h3⟩ => ⟨a, h0, r.h.fresh h1, h2, h3⟩) σ H Q ⟨G0, H0, G, env, P, ok, hm, fun d v G' H' p g ⟨a, h0, h1, h2, h3⟩ => h0 ▸ k d a G' H' p g h1 h2 h3⟩
theorem ge_op {op : Operator} {f : D → D → M D} (ho : OpR X (binaryOp op) (rG2 X.K f)) (ha : BE X a m) (hb : BE X b n) : GE X (.BinOp a op b pos) (eBin f m n) := pe_imp (pe_op ho ha hb) two_g
theorem fe_op {op : Operator} {f : D → D → M D} (ho : OpR X (binaryOp op) (rF2 X.K f)) (ha : BE X a m) (hb : BE X b n) : FE X (.BinOp a op b pos) (eBin f m n) := pe_imp (pe_op ho ha hb) two_f
theorem ge_cmp {op : CmpOp} {f : D → D → M D} (ho : OpR X (compareOp op) (rG2 X.K f)) (ha : BE X a m) (hb : BE X b n) (hm : behindInMarks op b = false) : GE X (.Compare a [op] [b] pos) (eBin f m n) := pe_imp (pe_cmpR ho ha hb hm) two_g
theorem ge_ix {f : D → D → M D} (ho : IxR X (rG2 X.K f)) (ha : BE X a m) (hb : BE X b n) (hs : PlainIx b := by intro _ _; rfl) : GE X (.Subscript a b pos) (eBin f m n) := pe_imp (pe_ix ho ha hb hs) two_g
theorem ge_un {op : UnaryOp} {f : D → M D} (ho : UnR X (unaryOp op) (rG1 X.K f)) (ha : BE X a m) : GE X (.UnaryOp op a pos) (eUn f m) := pe_imp (pe_un ho ha) fun σ H Q ⟨G0, H0, G, env, P, ok, hm, k⟩ =>
  ⟨G0, H0, G, env, _, ok, hm, fun d v G1 H1 hP r1 b1 => ⟨G1, d, P, r1.b, b1, hP, fun z w G3 H3 p3 r3 q3 => k z w G3 H3 p3 (r1.trans r3) q3⟩⟩

/-! ### tests -/
def isB (P : Bool → Prop) : D → Prop
  | .bl b => P b
  | _ => False
def tVal (m : EM) : Env → M Bool := fun env P => m env (isB P)
def tAnd (a b : Env → M Bool) : Env → M Bool := fun env P => a env fun c => match c with | true => b env P | false => P false
def tOr (a b : Env → M Bool) : Env → M Bool := fun env P => a env fun c => match c with | true => P true | false => b env P
def tNot (a : Env → M Bool) : Env → M Bool := fun env P => a env fun c => P (!c)
theorem Rep.bl_inv {K : PySem.W.Frag} {G : Hp} {b : Bool} {v : V} (h : Rep K G (.bl b) v) : v = .bl b := by cases h; rfl
theorem isB_inv {P : Bool → Prop} {d : D} (h : isB P d) : ∃ b, d = .bl b ∧ P b := by
  cases d <;> first | exact ⟨_, rfl, h⟩ | exact h.elim
theorem gt_of (h : GE X e m) (he : ∀ whole, isTrue e X.env whole = (do let v ← whole; standAt e.pos; holding [v] (truthy v)) := by intro _; rfl) : GT X e (tVal m) := pt_imp (pt_val h he) fun σ H Q ⟨G0, H0, G, env, P, ok, hm, k⟩ =>
  ⟨G0, H0, G, env, _, ok, hm, fun d v G' H' p r q => by
    obtain ⟨b, rfl, p⟩ := isB_inv p
    exact ⟨b, q.bl_inv, k b G' H' p r⟩⟩
theorem gt_cmp {op : CmpOp} {f : D → D → M D} (ho : OpR X (compareOp op) (rG2 X.K f)) (ha : BE X a m) (hb : BE X b n) (hm : behindInMarks op b = false) : GT X (.Compare a [op] [b] pos) (tVal (eBin f m n)) := pt_imp (pt_cmpR ho ha hb hm) fun σ H Q ⟨G0, H0, G, env, P, ok, hm, k⟩ =>
  two_g (X := X) σ H _ ⟨G0, H0, G, env, _, ok, hm, fun d v G' H' p r q => by
    obtain ⟨b, rfl, p⟩ := isB_inv p
    exact ⟨b, q.bl_inv, k b G' H' p r⟩⟩
variable {tA tB' : Env → M Bool} {rest : List Expr}
theorem gw_and1 (ha : GT X a tA) : GW X (.BoolOp .And [a] pos) tA := pw_and1 ha
theorem gw_or1 (ha : GT X a tA) : GW X (.BoolOp .Or [a] pos) tA := pw_or1 ha
theorem gw_and (ha : GT X a tA) (hb : GW X (.BoolOp .And (b :: rest) pos) tB') : GW X (.BoolOp .And (a :: b :: rest) pos) (tAnd tA tB') := pw_imp (pw_and ha hb) fun σ H Q ⟨G0, H0, G, env, P, ok, hm, k⟩ =>
  ⟨G0, H0, G, env, _, ok, hm, fun c G' H' p r => by
    cases c with
    | true => exact ⟨G0, H0, G', env, P, ok.mono r, p, fun b G2 H2 p2 r2 => k b G2 H2 p2 (r.trans r2)⟩
    | false => exact k false G' H' p r⟩
theorem gw_or (ha : GT X a tA) (hb : GW X (.BoolOp .Or (b :: rest) pos) tB') : GW X (.BoolOp .Or (a :: b :: rest) pos) (tOr tA tB') := pw_imp (pw_or ha hb) fun σ H Q ⟨G0, H0, G, env, P, ok, hm, k⟩ =>
  ⟨G0, H0, G, env, _, ok, hm, fun c G' H' p r => by
    cases c with
    | true => exact k true G' H' p r
    | false => exact ⟨G0, H0, G', env, P, ok.mono r, p, fun b G2 H2 p2 r2 => k b G2 H2 p2 (r.trans r2)⟩⟩
theorem gt_w (h : GW X e tA) : GT X e tA := h.pt
theorem gt_not (ha : GT X a tA) : GT X (.UnaryOp .Not a pos) (tNot tA) := pt_imp (pt_not ha) fun σ H Q ⟨G0, H0, G, env, P, ok, hm, k⟩ =>
  ⟨G0, H0, G, env, _, ok, hm, fun c G' H' p r => k _ G' H' p r⟩
/-! .. as values -/
def eAnd (a b : EM) : EM := fun env P => a env (isB fun c => match c with | true => b env P | false => P (.bl false))
def eOr (a b : EM) : EM := fun env P => a env (isB fun c => match c with | true => P (.bl true) | false => b env P)
def eNot (a : EM) : EM := fun env P => a env (isB fun c => P (.bl (!c)))
def eIf (t : Env → M Bool) (a b : EM) : EM := fun env P => t env fun c => match c with | true => a env P | false => b env P
theorem ge_one {op} (h : GE X a m) : GE X (.BoolOp op [a] pos) m := pe_one h
theorem ge_and (ha : GE X a m) (hb : GE X (.BoolOp .And (b :: rest) pos) n) : GE X (.BoolOp .And (a :: b :: rest) pos) (eAnd m n) := pe_imp (pe_and ha hb) fun σ H Q ⟨G0, H0, G, env, P, ok, hm, k⟩ =>
  ⟨G0, H0, G, env, _, ok, hm, fun d v G' H' p r q => by
    obtain ⟨c, rfl, p⟩ := isB_inv p
    refine ⟨c, q.bl_inv, ?_⟩
    cases c with
    | true => exact ⟨G0, H0, G', env, P, ok.mono r, p, fun d v G2 H2 p2 r2 q2 => k d v G2 H2 p2 (r.trans r2) q2⟩
    | false => exact k _ _ G' H' p r (.bl false)⟩
theorem ge_or (ha : GE X a m) (hb : GE X (.BoolOp .Or (b :: rest) pos) n) : GE X (.BoolOp .Or (a :: b :: rest) pos) (eOr m n) := pe_imp (pe_or ha hb) fun σ H Q ⟨G0, H0, G, env, P, ok, hm, k⟩ =>
  ⟨G0, H0, G, env, _, ok, hm, fun d v G' H' p r q => by
    obtain ⟨c, rfl, p⟩ := isB_inv p
    refine ⟨c, q.bl_inv, ?_⟩
    cases c with
    | false => exact ⟨G0, H0, G', env, P, ok.mono r, p, fun d v G2 H2 p2 r2 q2 => k d v G2 H2 p2 (r.trans r2) q2⟩
    | true => exact k _ _ G' H' p r (.bl true)⟩
theorem ge_not (ha : GE X a m) : GE X (.UnaryOp .Not a pos) (eNot m) := pe_imp (pe_not ha) fun σ H Q ⟨G0, H0, G, env, P, ok, hm, k⟩ =>
  ⟨G0, H0, G, env, _, ok, hm, fun d v G' H' p r q => by
    obtain ⟨c, rfl, p⟩ := isB_inv p
    exact ⟨c, q.bl_inv, k _ _ G' H' p r (.bl _)⟩⟩
theorem ge_if (hc : GT X c tA) (ha : GE X a m) (hb : GE X b n) : GE X (.IfExp c a b pos) (eIf tA m n) := pe_imp (pe_ifExp hc ha hb) fun σ H Q ⟨G0, H0, G, env, P, ok, hm, k⟩ =>
  ⟨G0, H0, G, env, _, ok, hm, fun c G' H' p r => by
    cases c with
    | true => exact ⟨G0, H0, G', env, P, ok.mono r, p, fun d v G2 H2 p2 r2 q2 => k d v G2 H2 p2 (r.trans r2) q2⟩
    | false => exact ⟨G0, H0, G', env, P, ok.mono r, p, fun d v G2 H2 p2 r2 q2 => k d v G2 H2 p2 (r.trans r2) q2⟩⟩
theorem be_if (hc : GT X c tA) (ha : BE X a m) (hb : BE X b n) : BE X (.IfExp c a b pos) (eIf tA m n) := pe_imp (pe_ifExp hc ha hb) fun σ H Q ⟨G0, H0, G, env, P, ok, hm, k⟩ =>
  ⟨G0, H0, G, env, _, ok, hm, fun c G' H' p r => by
    cases c with
    | true => exact ⟨G0, H0, G', env, P, ok.mono r, p, fun d v G2 H2 p2 r2 q2 => k d v G2 H2 p2 (r.trans r2) q2⟩
    | false => exact ⟨G0, H0, G', env, P, ok.mono r, p, fun d v G2 H2 p2 r2 q2 => k d v G2 H2 p2 (r.trans r2) q2⟩⟩
theorem fe_if (hc : GT X c tA) (ha : FE X a m) (hb : FE X b n) : FE X (.IfExp c a b pos) (eIf tA m n) := pe_imp (pe_ifExp hc ha hb) fun σ H Q ⟨G0, H0, G, env, P, ok, hm, k⟩ =>
  ⟨G0, H0, G, env, _, ok, hm, fun c G' H' p r => by
    cases c with
    | true => exact ⟨G0, H0, G', env, P, ok.mono r, p, fun d a G2 H2 p2 r2 h1 h2 h3 => k d a G2 H2 p2 (r.trans r2) (r.h.fresh h1) h2 h3⟩
    | false => exact ⟨G0, H0, G', env, P, ok.mono r, p, fun d a G2 H2 p2 r2 h1 h2 h3 => k d a G2 H2 p2 (r.trans r2) (r.h.fresh h1) h2 h3⟩⟩
/-- a op b op' c: b once -/
def eChain (f g : D → D → M D) (a b c : EM) : EM := fun env P => a env fun x => b env fun y => f x y (isB fun k => match k with | true => c env fun z => g y z P | false => P (.bl false))
theorem chain_g {f g : D → D → M D} : ∀ σ H Q, tG X.K (eChain f g m n l) σ H Q → tChain (rG2 X.K f) (rG2 X.K g) (tB X.K m) (tB X.K n) (tB X.K l) σ H Q := fun σ H Q ⟨G0, H0, G, env, P, ok, hm, k⟩ =>
  ⟨G0, H0, G, env, _, ok, hm, fun d v G1 H1 hP r1 b1 => ⟨G0, H0, G1, env, _, ok.mono r1, hP, fun e u G2 H2 hP2 r2 b2 =>
    ⟨G2, d, e, _, r2.b, b1.mono r2, b2, hP2, fun z w G3 H3 p3 r3 q3 => by
      obtain ⟨c, rfl, p3⟩ := isB_inv p3
      refine ⟨c, q3.bl_inv, ?_⟩
      have r := (r1.trans r2).trans r3
      cases c with
      | true => exact ⟨G0, H0, G3, env, _, ok.mono r, p3, fun d3 v3 G4 H4 p4 r4 b4 => ⟨G4, e, d3, P, r4.b, b2.mono (r3.trans r4), b4, p4, fun z w G5 H5 p5 r5 q5 => k z w G5 H5 p5 ((r.trans r4).trans r5) q5⟩⟩
      | false => exact k _ _ G3 H3 p3 r (.bl false)⟩⟩⟩
theorem ge_chain {op op' : CmpOp} {f g : D → D → M D} (ho : OpR X (compareOp op) (rG2 X.K f)) (ho' : OpR X (compareOp op') (rG2 X.K g)) (ha : BE X a m) (hb : BE X b n) (hc : BE X c l)
    (hm : lastMarks [op, op'] [b, c] = false := by with_unfolding_all rfl) : GE X (.Compare a [op, op'] [b, c] pos) (eChain f g m n l) := pe_imp (pe_chain ho ho' ha hb hc hm) chain_g
theorem gt_chain {op op' : CmpOp} {f g : D → D → M D} (ho : OpR X (compareOp op) (rG2 X.K f)) (ho' : OpR X (compareOp op') (rG2 X.K g)) (ha : BE X a m) (hb : BE X b n) (hc : BE X c l)
    (hm : lastMarks [op, op'] [b, c] = false := by with_unfolding_all rfl) : GT X (.Compare a [op, op'] [b, c] pos) (tVal (eChain f g m n l)) := pt_imp (pt_chain ho ho' ha hb hc hm) fun σ H Q ⟨G0, H0, G, env, P, ok, hm, k⟩ =>
  chain_g (X := X) σ H _ ⟨G0, H0, G, env, _, ok, hm, fun d v G' H' p r q => by
    obtain ⟨b, rfl, p⟩ := isB_inv p
    exact ⟨b, q.bl_inv, k b G' H' p r⟩⟩

/-! ### arguments, displays -/
def aNil : Env → M (List D) := fun _ P => P []
def aCons (a : EM) (r : Env → M (List D)) : Env → M (List D) := fun env P => a env fun x => r env fun xs => P (x :: xs)
variable {ms : Env → M (List D)}
theorem ga_nil : GA X [] aNil := pa_imp pa_nil fun σ H Q ⟨G0, H0, G, env, P, ok, hm, k⟩ => k [] [] G H hm (.refl ok.gr.b) .nil
theorem ga_cons (ha : GE X e m) (hr : GA X es ms) (hs : starEach (e :: es) X.env = (false, eval e X.env) :: starEach es X.env := by rfl) : GA X (e :: es) (aCons m ms) := pa_imp (pa_cons ha hr hs) fun σ H Q ⟨G0, H0, G, env, P, ok, hm, k⟩ =>
  ⟨G0, H0, G, env, _, ok, hm, fun d v G1 H1 hP r1 q1 => ⟨G0, H0, G1, env, _, ok.mono r1, hP, fun ds vs G2 H2 hP2 r2 q2 => k _ _ G2 H2 hP2 (r1.trans r2) (.cons (q1.mono r2.g) q2)⟩⟩
theorem RepBL.mono {K : PySem.W.Frag} {G H G' H' : Hp} (r : Gr G H G' H') : ∀ {ds : List D} {vs : List V}, RepBL K G H ds vs → RepBL K G' H' ds vs
  | _, _, .nil => .nil
  | _, _, .cons h s => .cons (h.mono r) (s.mono r)
theorem ba_nil : BA X [] aNil := pa_imp pa_nil fun σ H Q ⟨G0, H0, G, env, P, ok, hm, k⟩ => k [] [] G H hm (.refl ok.gr.b) .nil
theorem ba_cons (ha : BE X e m) (hr : BA X es ms) (hs : starEach (e :: es) X.env = (false, eval e X.env) :: starEach es X.env := by rfl) : BA X (e :: es) (aCons m ms) := pa_imp (pa_cons ha hr hs) fun σ H Q ⟨G0, H0, G, env, P, ok, hm, k⟩ =>
  ⟨G0, H0, G, env, _, ok, hm, fun d v G1 H1 hP r1 q1 => ⟨G0, H0, G1, env, _, ok.mono r1, hP, fun ds vs G2 H2 hP2 r2 q2 => k _ _ G2 H2 hP2 (r1.trans r2) (.cons (q1.mono r2) q2)⟩⟩
/-- how many items a list, a tuple, a text may have -/
def lim : Nat := 16000000
theorem lim_le {n : Nat} (h : n ≤ lim) : n ≤ sizeLine := Nat.le_trans h (by decide)
theorem lim_lt {n : Nat} (h : n < lim) : n < sizeLine := Nat.lt_of_lt_of_le h (by decide)
def eTup (ms : Env → M (List D)) : EM := fun env P => ms env fun ds => ds.length ≤ lim ∧ P (.tup ds)
def eLst (ms : Env → M (List D)) : EM := fun env P => ms env fun ds => ds.length ≤ lim ∧ P (.lst ds)
theorem ge_tup {x1} (h : GA X es ms) : GE X (.Tuple es x1 pos) (eTup ms) := pe_imp (pe_tup h) fun σ H Q ⟨G0, H0, G, env, P, ok, hm, k⟩ =>
  ⟨G0, H0, G, env, _, ok, hm, fun ds vs G1 H1 hP r1 q1 => ⟨by rw [← q1.len]; exact lim_le hP.1, fun p hp => k _ _ _ _ hP.2 (r1.trans (.new r1.b hp)) (.tup upd_same (q1.mono (.new (r1.b.fresh hp))))⟩⟩
theorem fe_lst (h : GA X es ms) : FE X (.List es pos) (eLst ms) := pe_imp (pe_lst h) fun σ H Q ⟨G0, H0, G, env, P, ok, hm, k⟩ =>
  ⟨G0, H0, G, env, _, ok, hm, fun ds vs G1 H1 hP r1 q1 => ⟨by rw [← q1.len]; exact lim_le hP.1, fun p hp => k _ _ _ _ hP.2 (r1.trans (.newO r1.b hp)) (r1.h.fresh hp) (r1.b.fresh hp) (.lst upd_same q1)⟩⟩

/-! ### calls -/
def eCall (f : List D → M D) (ms : Env → M (List D)) : EM := fun env P => ms env fun ds => f ds P
/-- a def's promise, by its mirror -/
def SpG (K : PySem.W.Frag) (f : List D → M D) : Sp := fun vs H Q _ => ∃ G ds P, Ex G H ∧ RepL K G ds vs ∧ f ds P ∧ ∀ d v G' H', P d → Gr G H G' H' → Rep K G' d v → Q v H'
theorem ge_call {k : Nat} {f : Addr} {fd : FuncData} {ps : List Str} {mf : List D → M D} {x : Str} {p : Pos} (F : FnOk X.prog X.w X.K X.mg X.base CX0 k f fd ps (SpG X.K mf)) (hr : Room k X.A) (hm : X.mg x = some (.ref f)) (hk : PySem.W.keepIn X.K (.ref f) = true) (hb : Binds X.K fd ps []) (ha : GA X (e :: es) ms)
    (hg : Gl X x := by rfl) (hdb : (x == ("__debug__" : Str)) = false := by decide) (he : starEach (e :: es) X.env = (false, eval e X.env) :: starEach es X.env := by rfl) (hpl : (backTo pos (starEach es X.env)).any (·.1) = false := by rfl) : GE X (.Call (.Name x p) (e :: es) [] pos) (eCall mf ms) := by
  refine pe_imp (pe_call F hr hg hm hk hb .nil pass0 ha hdb he hpl) fun σ H Q ⟨G0, H0, G, env, P, ok, hm, k⟩ => ?_
  exact ⟨G0, H0, G, env, _, ok, hm, fun ds vs G1 H1 hP r1 q1 => ⟨G1, ds, P, r1.b, by rw [List.append_nil]; exact q1, hP, fun d v G2 H2 p2 r2 q2 => k d v G2 H2 p2 (r1.trans r2) q2⟩⟩
theorem ge_call0 {k : Nat} {f : Addr} {fd : FuncData} {ps : List Str} {mf : List D → M D} {x : Str} {p : Pos} (F : FnOk X.prog X.w X.K X.mg X.base CX0 k f fd ps (SpG X.K mf)) (hr : Room k X.A) (hm : X.mg x = some (.ref f)) (hk : PySem.W.keepIn X.K (.ref f) = true) (hb : Binds X.K fd ps [])
    (hg : Gl X x := by rfl) (hdb : (x == ("__debug__" : Str)) = false := by decide) : GE X (.Call (.Name x p) [] [] pos) (eCall mf aNil) := by
  refine pe_imp (pe_call0 F hr hg hm hk hb .nil pass0 hdb) fun σ H Q ⟨G0, H0, G, env, P, ok, hm, k⟩ => ?_
  exact ⟨G, [], P, ok.gr.b, .nil, hm, fun d v G2 H2 p2 r2 q2 => k d v G2 H2 p2 r2 q2⟩
/-- a built-in's call by values -/
def rGC (K : PySem.W.Frag) (f : List D → M D) : List V → Hp → VK → Prop := fun vs H Q => ∃ G ds P, Ex G H ∧ RepBL K G H ds vs ∧ f ds P ∧ ∀ r v G' H', P r → Gr G H G' H' → Rep K G' r v → Q v H'
def rFC (K : PySem.W.Frag) (f : List D → M D) : List V → Hp → VK → Prop := fun vs H Q => ∃ G ds P, Ex G H ∧ RepBL K G H ds vs ∧ f ds P ∧ ∀ r a G' H', P r → Gr G H G' H' → H a = none → G' a = none → Own K G' H' a r → Q (.ref a) H'
theorem args_g {f : List D → M D} : ∀ σ H Q, tG X.K (eCall f ms) σ H Q → tCB (rGC X.K f) (tBA X.K ms) σ H Q := fun σ H Q ⟨G0, H0, G, env, P, ok, hm, k⟩ =>
  ⟨G0, H0, G, env, _, ok, hm, fun ds vs G1 H1 hP r1 q1 => ⟨G1, ds, P, r1.b, q1, hP, fun d v G2 H2 p2 r2 q2 => k d v G2 H2 p2 (r1.trans r2) q2⟩⟩
theorem args_f {f : List D → M D} : ∀ σ H Q, tF X.K (eCall f ms) σ H Q → tCB (rFC X.K f) (tBA X.K ms) σ H Q := fun σ H Q ⟨G0, H0, G, env, P, ok, hm, k⟩ =>
  ⟨G0, H0, G, env, _, ok, hm, fun ds vs G1 H1 hP r1 q1 => ⟨G1, ds, P, r1.b, q1, hP, fun d a G2 H2 p2 r2 h1 h2 h3 => k d a G2 H2 p2 (r1.trans r2) (r1.h.fresh h1) h2 h3⟩⟩
theorem ge_callB {id : String} {f : List D → M D} {x : Str} {p : Pos} (hc : CallR X (.builtin id) (rGC X.K f)) (hm : X.mg x = none) (ha : BA X (e :: es) ms) (hg : Gl X x := by rfl) (hv : bootBuiltins x = some (.builtin id) := by decide +kernel) (hn : x ≠ "__name__" := by decide) (hdb : (x == ("__debug__" : Str)) = false := by decide) (he : starEach (e :: es) X.env = (false, eval e X.env) :: starEach es X.env := by rfl) (hpl : (backTo pos (starEach es X.env)).any (·.1) = false := by rfl) :
    GE X (.Call (.Name x p) (e :: es) [] pos) (eCall f ms) := pe_imp (pe_callB hc hg hm hv ha hn hdb he hpl) args_g
theorem fe_callB {id : String} {f : List D → M D} {x : Str} {p : Pos} (hc : CallR X (.builtin id) (rFC X.K f)) (hm : X.mg x = none) (ha : BA X (e :: es) ms) (hg : Gl X x := by rfl) (hv : bootBuiltins x = some (.builtin id) := by decide +kernel) (hn : x ≠ "__name__" := by decide) (hdb : (x == ("__debug__" : Str)) = false := by decide) (he : starEach (e :: es) X.env = (false, eval e X.env) :: starEach es X.env := by rfl) (hpl : (backTo pos (starEach es X.env)).any (·.1) = false := by rfl) :
    FE X (.Call (.Name x p) (e :: es) [] pos) (eCall f ms) := pe_imp (pe_callB hc hg hm hv ha hn hdb he hpl) args_f
theorem ge_callTy {T : String} {f : List D → M D} {x : Str} {p : Pos} (hc : CallR X (.type T) (rGC X.K f)) (hm : X.mg x = none) (ha : BA X (e :: es) ms) (hg : Gl X x := by rfl) (hv : bootBuiltins x = some (.type T) := by decide +kernel) (hn : x ≠ "__name__" := by decide) (hdb : (x == ("__debug__" : Str)) = false := by decide) (he : starEach (e :: es) X.env = (false, eval e X.env) :: starEach es X.env := by rfl) (hpl : (backTo pos (starEach es X.env)).any (·.1) = false := by rfl) :
    GE X (.Call (.Name x p) (e :: es) [] pos) (eCall f ms) := pe_imp (pe_callTy hc hg hm hv ha hn hdb he hpl) args_g
theorem fe_callTy {T : String} {f : List D → M D} {x : Str} {p : Pos} (hc : CallR X (.type T) (rFC X.K f)) (hm : X.mg x = none) (ha : BA X (e :: es) ms) (hg : Gl X x := by rfl) (hv : bootBuiltins x = some (.type T) := by decide +kernel) (hn : x ≠ "__name__" := by decide) (hdb : (x == ("__debug__" : Str)) = false := by decide) (he : starEach (e :: es) X.env = (false, eval e X.env) :: starEach es X.env := by rfl) (hpl : (backTo pos (starEach es X.env)).any (·.1) = false := by rfl) :
    FE X (.Call (.Name x p) (e :: es) [] pos) (eCall f ms) := pe_imp (pe_callTy hc hg hm hv ha hn hdb he hpl) args_f
end
end G
set_option Elab.async false
set_option linter.all false
set_option maxRecDepth 100000
namespace G
open PySem PySem.Spec PyProof.Rows L2

section
variable {K : PySem.W.Frag} {G H : Hp} {v : V}
theorem RepB.int_inv {i : Int} (h : RepB K G H (.int i) v) : v = .int i := by cases h with | rep h => cases h; rfl
theorem RepB.bl_inv {i : Bool} (h : RepB K G H (.bl i) v) : v = .bl i := by cases h with | rep h => cases h; rfl
theorem RepB.non_inv (h : RepB K G H .non v) : v = .non := by cases h with | rep h => cases h; rfl
theorem RepB.str_inv {s : List Nat} (h : RepB K G H (.str s) v) : v = .str ⟨s.toArray⟩ ∧ sOk s = true := by cases h with | rep h => cases h; exact ⟨rfl, by assumption⟩
theorem RepB.tup_inv (b : Ex G H) {ds : List D} (h : RepB K G H (.tup ds) v) : ∃ a vs, v = .ref a ∧ SqT K H a vs ∧ RepL K G ds vs := by
  cases h with | rep h => cases h with | tup h r => exact ⟨_, _, rfl, .of (b _ _ h), r⟩
theorem RepB.tupT_inv (b : Ex G H) {ds : List D} (h : RepB K G H (.tup ds) v) : ∃ a vs, v = .ref a ∧ H a = some (.tup vs) ∧ RepL K G ds vs := by
  cases h with | rep h => cases h with | tup h r => exact ⟨_, _, rfl, b _ _ h, r⟩
theorem RepB.kt_inv {ds : List D} (h : RepB K G H (.kt ds) v) : ∃ a vs, v = .ref a ∧ SqT K H a vs ∧ RepL K G ds vs := by
  cases h with | rep h => cases h with | kt h r => exact ⟨_, _, rfl, kt_at h, r⟩
theorem RepB.lst_inv (b : Ex G H) {ds : List D} (h : RepB K G H (.lst ds) v) : ∃ a vs, v = .ref a ∧ H a = some (.lst vs) ∧ RepL K G ds vs := by
  cases h with
  | lst h r => exact ⟨_, _, rfl, h, r⟩
  | rep h => cases h with | lst h r => exact ⟨_, _, rfl, b _ _ h, r⟩
theorem RepB.dK_inv (b : Ex G H) {ds : List (D × D)} (h : RepB K G H (.dK ds) v) : ∃ a hs, v = .ref a ∧ H a = some (.dK hs) ∧ RepK K G ds hs := by
  cases h with
  | dK h r => exact ⟨_, _, rfl, h, r⟩
  | rep h => cases h with | dK h r => exact ⟨_, _, rfl, b _ _ h, r⟩
theorem RepB.dT_inv (b : Ex G H) {ds : List (D × D)} (h : RepB K G H (.dT ds) v) : ∃ a hs, v = .ref a ∧ H a = some (.dT hs) ∧ RepT K G ds hs := by
  cases h with
  | dT h r => exact ⟨_, _, rfl, h, r⟩
  | rep h => cases h with | dT h r => exact ⟨_, _, rfl, b _ _ h, r⟩
theorem RepB.scr_inv (b : Ex G H) {ns : List Int} (h : RepB K G H (.scr ns) v) : ∃ a, v = .ref a ∧ SqL K H a (ns.map V.int) := by
  cases h with | rep h => cases h with | scr h => exact ⟨_, rfl, ex_l b h⟩
theorem RepB.ty_inv {n : String} (h : RepB K G H (.ty n) v) : v = .ty n := by cases h with | rep h => cases h; rfl
end

/-! ### no mirror -/
def stuck {α : Type} : M α := fun _ => False
/-- a condition -/
def ask {α : Type} (c : Prop) (m : M α) : M α := fun P => c ∧ m P
def ret {α : Type} (a : α) : M α := fun P => P a

/-! ### arithmetic -/
def dAdd : D → D → M D
  | .int a, .int b => ret (.int (a + b))
  | .str a, .str b => ask (a.length + b.length ≤ lim) (ret (.str (a ++ b)))
  | .tup a, .tup b => ask (a.length + b.length ≤ lim) (ret (.tup (a ++ b)))
  | .lst a, .lst b => ask (a.length + b.length ≤ lim) (ret (.lst (a ++ b)))
  | _, _ => stuck
def fAdd : D → D → M D
  | .lst a, .lst b => ask (a.length + b.length ≤ lim) (ret (.lst (a ++ b)))
  | _, _ => stuck
def dSub : D → D → M D
  | .int a, .int b => ret (.int (a - b))
  | _, _ => stuck
def small (i : Int) : Prop := -(2 ^ 64) < i ∧ i < 2 ^ 64
/-- a text so many times -/
def srep (n : Int) (s : List Nat) : List Nat := (List.replicate n.toNat s).flatten
def dMul : D → D → M D
  | .int a, .int b => ask (small a ∨ small b) (ret (.int (a * b)))
  | .str s, .int n => ask (n ≤ 1000000 ∧ s.length ≤ 1000 ∧ s.length * n.toNat ≤ lim ∧ -1000000 ≤ n) (ret (.str (srep n s)))
  | .lst s, .int n => ask (n ≤ 1000000 ∧ s.length * n.toNat ≤ lim ∧ -1000000 ≤ n) (ret (.lst (List.replicate n.toNat s).flatten))
  | .tup s, .int n => ask (s ≠ [] ∧ 2 ≤ n ∧ n ≤ 1000 ∧ s.length ≤ 1000) (ret (.tup (List.replicate n.toNat s).flatten))
  | _, _ => stuck
def fMul : D → D → M D
  | .lst s, .int n => ask (n ≤ 1000000 ∧ s.length * n.toNat ≤ lim ∧ -1000000 ≤ n) (ret (.lst (List.replicate n.toNat s).flatten))
  | _, _ => stuck
def dDiv : D → D → M D
  | .int a, .int b => ask (0 < b ∧ b < 1073741824) (ret (.int (a / b)))
  | _, _ => stuck
def dMod : D → D → M D
  | .int a, .int b => ask (0 < b) (ret (.int (a % b)))
  | _, _ => stuck
def dPow : D → D → M D
  | .int a, .int b => ask (0 ≤ b ∧ b ≤ 1000000 ∧ a.natAbs < 2 ^ 64) (ret (.int (a ^ b.toNat)))
  | _, _ => stuck
section
variable {X : Cx}
theorem sOk_app {a b : List Nat} (h : sOk a = true) (k : sOk b = true) : sOk (a ++ b) = true := by
  unfold sOk at *; rw [List.all_append, h, k]; rfl
theorem op_dAdd : OpR X (binaryOp .Add) (rG2 X.K dAdd) := by
  intro pins s σ H x y v u Q I rx ry ⟨G, d, e, P, b, hd, he, hf, k⟩
  unfold dAdd at hf
  split at hf
  · cases hd.int_inv
    cases he.int_inv
    exact op_add pins s σ H _ _ v u Q I rx ry ⟨_, _, rfl, rfl, k _ _ _ _ hf (.refl b) (.int _)⟩
  · obtain ⟨rfl, h1⟩ := hd.str_inv
    obtain ⟨rfl, h2⟩ := he.str_inv
    obtain ⟨hl, hf⟩ := hf
    refine op_add_str pins s σ H _ _ v u Q I rx ry ⟨_, _, rfl, rfl, lim_le ?_, ?_⟩
    · simpa [Str.length] using hl
    · have := k _ _ _ _ hf (.refl b) (.str _ (sOk_app h1 h2))
      rw [← List.append_toArray] at this
      exact this
  · obtain ⟨a1, vs, rfl, h1, r1⟩ := hd.tup_inv b
    obtain ⟨a2, us, rfl, h2, r2⟩ := he.tup_inv b
    obtain ⟨hl, hf⟩ := hf
    rename_i da db
    refine op_catA pins s σ H _ _ v u Q I rx ry ⟨a1, a2, vs, us, rfl, rfl, h1, h2, ?_, fun e => ?_, fun _ e => ?_, fun _ _ p hp => ?_⟩
    · rw [← r1.len, ← r2.len]; exact lim_le hl
    · subst e
      cases r1
      refine k _ _ G H hf (.refl b) ?_
      cases he with | rep he => exact he
    · subst e
      cases r2
      refine k _ _ G H hf (.refl b) ?_
      rw [List.append_nil]
      cases hd with | rep hd => exact hd
    · exact k _ _ _ _ hf (.new b hp) (.tup upd_same ((r1.app r2).mono (.new (b.fresh hp))))
  · obtain ⟨a1, vs, rfl, h1, r1⟩ := hd.lst_inv b
    obtain ⟨a2, us, rfl, h2, r2⟩ := he.lst_inv b
    obtain ⟨hl, hf⟩ := hf
    exact op_cat pins s σ H _ _ v u Q I rx ry ⟨a1, a2, vs, us, rfl, rfl, h1, h2, by rw [← r1.len, ← r2.len]; exact lim_le hl, fun p hp => k _ _ _ _ hf (.new b hp) (.lst upd_same ((r1.app r2).mono (.new (b.fresh hp))))⟩
  · exact hf.elim
theorem op_fAdd : OpR X (binaryOp .Add) (rF2 X.K fAdd) := by
  intro pins s σ H x y v u Q I rx ry ⟨G, d, e, P, b, hd, he, hf, k⟩
  unfold fAdd at hf
  split at hf
  · obtain ⟨a1, vs, rfl, h1, r1⟩ := hd.lst_inv b
    obtain ⟨a2, us, rfl, h2, r2⟩ := he.lst_inv b
    obtain ⟨hl, hf⟩ := hf
    exact op_cat pins s σ H _ _ v u Q I rx ry ⟨a1, a2, vs, us, rfl, rfl, h1, h2, by rw [← r1.len, ← r2.len]; exact lim_le hl, fun p hp => k _ p G _ hf (.newO b hp) hp (b.fresh hp) (.lst upd_same (r1.app r2))⟩
  · exact hf.elim
theorem op_dSub : OpR X (binaryOp .Sub) (rG2 X.K dSub) := by
  intro pins s σ H x y v u Q I rx ry ⟨G, d, e, P, b, hd, he, hf, k⟩
  unfold dSub at hf
  split at hf
  · cases hd.int_inv
    cases he.int_inv
    exact op_sub pins s σ H _ _ v u Q I rx ry ⟨_, _, rfl, rfl, k _ _ _ _ hf (.refl b) (.int _)⟩
  · exact hf.elim
theorem foldl_srep (x : List Nat) : ∀ (m : Nat) (acc : List Nat), List.foldl (fun x1 x2 => x1 ++ x2) acc.toArray (List.replicate m x.toArray) = (acc ++ (List.replicate m x).flatten).toArray
  | 0, acc => by simp
  | m + 1, acc => by
    rw [List.replicate_succ, List.foldl_cons, List.append_toArray, foldl_srep x m (acc ++ x), List.replicate_succ, List.flatten_cons, List.append_assoc]
theorem sOk_srep {s : List Nat} (h : sOk s = true) (n : Int) : sOk (srep n s) = true := by
  unfold srep
  generalize n.toNat = m
  induction m with
  | zero => rfl
  | succ m ih => rw [List.replicate_succ, List.flatten_cons]; exact sOk_app h ih
theorem RepL.rep {K : PySem.W.Frag} {G : Hp} {ds : List D} {vs : List V} (r : RepL K G ds vs) : ∀ m : Nat, RepL K G (List.replicate m ds).flatten (List.replicate m vs).flatten
  | 0 => .nil
  | m + 1 => by rw [List.replicate_succ, List.flatten_cons, List.replicate_succ, List.flatten_cons]; exact r.app (r.rep m)
theorem op_dMul : OpR X (binaryOp .Mult) (rG2 X.K dMul) := by
  intro pins s σ H x y v u Q I rx ry ⟨G, d, e, P, b, hd, he, hf, k⟩
  unfold dMul at hf
  split at hf
  · cases hd.int_inv
    cases he.int_inv
    obtain ⟨hl, hf⟩ := hf
    exact op_mul pins s σ H _ _ v u Q I rx ry ⟨_, _, rfl, rfl, hl, k _ _ _ _ hf (.refl b) (.int _)⟩
  · obtain ⟨rfl, h1⟩ := hd.str_inv
    cases he.int_inv
    rename_i sx n
    obtain ⟨⟨hn, hs, hl, hm⟩, hf⟩ := hf
    have q := k _ _ _ _ hf (.refl b) (.str _ (sOk_srep h1 n))
    obtain ⟨t, rfl⟩ := rx
    obtain ⟨t', rfl⟩ := ry
    have hlen : Str.length ⟨sx.toArray⟩ = sx.length := by simp [Str.length]
    have hl2 : sx.length * n.toNat ≤ 16000000 := hl
    refine PySem.P.mul_str ?_ (fun h1 h2 => ?_) (fun h1 h2 => ?_) ?_
    · rw [decide_eq_false (by omega), decide_eq_false (by omega)]; rfl
    · rw [hlen]
      have h3 : (9223372036854 : Int) ≤ (2 ^ 63 - 1) / n := (Int.le_ediv_iff_mul_le (by omega)).mpr (by omega)
      omega
    · rw [hlen]
      exact decide_eq_false (by have : (16000000 : Nat) ≤ sizeLine := by decide
                                omega)
    · by_cases h1 : n < 1
      · rw [if_pos h1]
        refine ⟨by decide, .str _, H, I.tok _, ⟨_, rfl⟩, ?_⟩
        have e : n.toNat = 0 := by omega
        unfold srep at q
        rw [e] at q
        exact q
      · rw [if_neg h1]
        by_cases h2 : (n == 1 || Str.length ⟨sx.toArray⟩ == 0) = true
        · rw [if_pos h2]
          refine ⟨.str _, H, I, ⟨_, rfl⟩, ?_⟩
          rw [hlen] at h2
          have e : srep n sx = sx := by
            unfold srep
            rcases Bool.or_eq_true_iff.mp h2 with z | z
            · rw [beq_iff_eq.mp z]; simp
            · have : sx = [] := List.length_eq_zero_iff.mp (beq_iff_eq.mp z)
              subst this; simp
          rw [e] at q
          exact q
        · rw [if_neg h2]
          have e := foldl_srep sx n.toNat []
          rw [List.nil_append] at e
          rw [show List.foldl (· ++ ·) #[] (List.replicate n.toNat (⟨sx.toArray⟩ : Str).cps) = (srep n sx).toArray from e]
          have hz : (srep n sx).length ≤ 16000000 := by
            unfold srep
            rw [List.length_flatten, List.map_replicate, List.sum_replicate_nat, Nat.mul_comm]
            exact hl2
          refine ⟨?_, .str _, H, I.tok _, ⟨_, rfl⟩, q⟩
          have : (16000000 : Nat) ≤ sizeLine := by decide
          show (srep n sx).toArray.size ≤ sizeLine
          rw [List.size_toArray]
          omega
  · obtain ⟨a1, vs, rfl, h1, r1⟩ := hd.lst_inv b
    cases he.int_inv
    rename_i ds n
    obtain ⟨⟨hn, hl, hm⟩, hf⟩ := hf
    exact op_rep pins s σ H _ _ v u Q I rx ry ⟨a1, n, vs, rfl, rfl, h1, by omega, by omega, by rw [← r1.len]; exact lim_le hl, fun p hp => k _ _ _ _ hf (.new b hp) (.lst upd_same ((r1.rep _).mono (.new (b.fresh hp))))⟩
  · obtain ⟨a1, vs, rfl, h1, r1⟩ := hd.tup_inv b
    cases he.int_inv
    rename_i ds n
    obtain ⟨⟨hn, h2, h3, h4⟩, hf⟩ := hf
    exact op_repT pins s σ H _ _ v u Q I rx ry ⟨a1, n, vs, rfl, rfl, h1, (fun z => hn (List.length_eq_zero_iff.mp (by rw [r1.len, z]; rfl))), h2, h3, by rw [← r1.len]; exact h4, fun p hp => k _ _ _ _ hf (.new b hp) (.tup upd_same ((r1.rep _).mono (.new (b.fresh hp))))⟩
  · exact hf.elim
theorem op_fMul : OpR X (binaryOp .Mult) (rF2 X.K fMul) := by
  intro pins s σ H x y v u Q I rx ry ⟨G, d, e, P, b, hd, he, hf, k⟩
  unfold fMul at hf
  split at hf
  · obtain ⟨a1, vs, rfl, h1, r1⟩ := hd.lst_inv b
    cases he.int_inv
    rename_i ds n
    obtain ⟨⟨hn, hl, hm⟩, hf⟩ := hf
    exact op_rep pins s σ H _ _ v u Q I rx ry ⟨a1, n, vs, rfl, rfl, h1, by omega, by omega, by rw [← r1.len]; exact lim_le hl, fun p hp => k _ p G _ hf (.newO b hp) hp (b.fresh hp) (.lst upd_same (r1.rep _))⟩
  · exact hf.elim
theorem op_dDiv : OpR X (binaryOp .FloorDiv) (rG2 X.K dDiv) := by
  intro pins s σ H x y v u Q I rx ry ⟨G, d, e, P, b, hd, he, hf, k⟩
  unfold dDiv at hf
  split at hf
  · cases hd.int_inv
    cases he.int_inv
    obtain ⟨hc, hf⟩ := hf
    exact op_fdiv pins s σ H _ _ v u Q I rx ry ⟨_, _, rfl, rfl, hc, k _ _ _ _ hf (.refl b) (.int _)⟩
  · exact hf.elim
theorem op_dMod : OpR X (binaryOp .Mod) (rG2 X.K dMod) := by
  intro pins s σ H x y v u Q I rx ry ⟨G, d, e, P, b, hd, he, hf, k⟩
  unfold dMod at hf
  split at hf
  · cases hd.int_inv
    cases he.int_inv
    obtain ⟨hc, hf⟩ := hf
    exact op_mod pins s σ H _ _ v u Q I rx ry ⟨_, _, rfl, rfl, hc, k _ _ _ _ hf (.refl b) (.int _)⟩
  · exact hf.elim
theorem op_dPow : OpR X (binaryOp .Pow) (rG2 X.K dPow) := by
  intro pins s σ H x y v u Q I rx ry ⟨G, d, e, P, b, hd, he, hf, k⟩
  unfold dPow at hf
  split at hf
  · cases hd.int_inv
    cases he.int_inv
    obtain ⟨hc, hf⟩ := hf
    exact op_pow pins s σ H _ _ v u Q I rx ry ⟨_, _, rfl, rfl, hc, k _ _ _ _ hf (.refl b) (.int _)⟩
  · exact hf.elim
def dNeg : D → M D
  | .int a => ret (.int (-a))
  | _ => stuck
theorem op_dNeg : UnR X (unaryOp .USub) (rG1 X.K dNeg) := by
  intro pins s σ H x v Q I rx ⟨G, d, P, b, hd, hf, k⟩
  unfold dNeg at hf
  split at hf
  · cases hd.int_inv
    exact un_neg pins s σ H _ v Q I rx ⟨_, rfl, k _ _ _ _ hf (.refl b) (.int _)⟩
  · exact hf.elim

/-! ### data compared -/
mutual
def toP : D → PyData
  | .non => .none
  | .bl b => .bool b
  | .int i => .int i
  | .str s => .str ⟨s.toArray⟩
  | .lst ds => .list (toPs ds)
  | .tup ds => .tuple (toPs ds)
  | .dK _ => .dict []
  | .dT _ => .dict []
  | .ty _ => .dict []
  | .cup => .dict []
  | .any => .dict []
  | .scr _ => .dict []
  | .kt ds => .tuple (toPs ds)
def toPs : List D → List PyData
  | [] => []
  | d :: ds => toP d :: toPs ds
end
mutual
/-- whether two data are equal (==) -/
def eqv : D → D → Bool
  | .non, .non => true
  | .bl a, .bl b => a == b
  | .bl a, .int j => (if a then 1 else 0) == j
  | .int i, .bl b => i == (if b then 1 else 0)
  | .int i, .int j => i == j
  | .str x, .str y => x == y
  | .lst xs, .lst ys => eqvL xs ys
  | .tup xs, .tup ys => eqvL xs ys
  | .tup xs, .kt ys => eqvL xs ys
  | .kt xs, .tup ys => eqvL xs ys
  | .kt xs, .kt ys => eqvL xs ys
  | _, _ => false
def eqvL : List D → List D → Bool
  | [], [] => true
  | x :: xs, y :: ys => eqv x y && eqvL xs ys
  | _, _ => false
end
/-- data, at most so deep -/
def okD : Nat → D → Bool
  | _, .non => true
  | _, .bl _ => true
  | _, .int _ => true
  | _, .str _ => true
  | n + 1, .lst ds => ds.all (okD n)
  | n + 1, .tup ds => ds.all (okD n)
  | n + 1, .kt ds => ds.all (okD n)
  | _, _ => false
theorem toPs_map : ∀ ds : List D, toPs ds = ds.map toP
  | [] => rfl
  | _ :: ds => by rw [toPs, toPs_map ds]; rfl
theorem okD_depth : ∀ (n : Nat) (d : D), okD n d = true → (toP d).depth ≤ n := by
  intro n
  induction n with
  | zero => intro d h; cases d <;> first | (simp [okD] at h; done) | simp [toP, PyData.depth]
  | succ n ih =>
    have all : ∀ ds : List D, ds.all (okD n) = true → PyData.depthAll (toPs ds) ≤ n := by
      intro ds
      induction ds with
      | nil => intro _; simp [toPs, PyData.depthAll]
      | cons d r ih2 =>
        intro h
        rw [List.all_cons, Bool.and_eq_true] at h
        have h1 := ih d h.1
        have h2 := ih2 h.2
        rw [toPs, PyData.depthAll]
        omega
    intro d h
    cases d <;> first | (simp [okD] at h; done) | simp [toP, PyData.depth]
    all_goals (rw [okD] at h; have := all _ h; omega)
mutual
theorem Rep.dp {K : PySem.W.Frag} {G H : Hp} (b : Ex G H) : ∀ {n : Nat} {d : D} {v : V}, Rep K G d v → okD n d = true → Dp K H v (toP d) ∧ (toP d).canLay0 = true
  | _, _, _, .non, _ => ⟨.non, by simp [toP, PyData.canLay0]⟩
  | _, _, _, .bl b, _ => ⟨.bl b, by simp [toP, PyData.canLay0]⟩
  | _, _, _, .int i, _ => ⟨.int i, by simp [toP, PyData.canLay0]⟩
  | _, _, _, .str s h, _ => ⟨.str _, by simpa [toP, PyData.canLay0, PyData.strOk, sOk] using h⟩
  | n + 1, _, _, .tup h r, ho => by
    rw [okD] at ho
    have := RepL.dp b r ho
    exact ⟨.tup (.of (b _ _ h)) this.1, by rw [toP, PyData.canLay0]; exact this.2⟩
  | n + 1, _, _, .lst h r, ho => by
    rw [okD] at ho
    have := RepL.dp b r ho
    exact ⟨.lst (.of (b _ _ h)) this.1, by rw [toP, PyData.canLay0]; exact this.2⟩
  | n + 1, _, _, .kt h r, ho => by
    rw [okD] at ho
    have := RepL.dp b r ho
    exact ⟨.tup (kt_at h) this.1, by rw [toP, PyData.canLay0]; exact this.2⟩
  | 0, _, _, .tup h r, ho => by simp [okD] at ho
  | 0, _, _, .kt h r, ho => by simp [okD] at ho
  | 0, _, _, .lst h r, ho => by simp [okD] at ho
  | 0, _, _, .dK h r, ho => by simp [okD] at ho
  | 0, _, _, .dT h r, ho => by simp [okD] at ho
  | n + 1, _, _, .dK h r, ho => by simp [okD] at ho
  | n + 1, _, _, .dT h r, ho => by simp [okD] at ho
  | 0, _, _, .scr h, ho => by simp [okD] at ho
  | n + 1, _, _, .scr h, ho => by simp [okD] at ho
  | 0, _, _, .cup h, ho => by simp [okD] at ho
  | n + 1, _, _, .cup h, ho => by simp [okD] at ho
  | 0, _, _, .ty _, ho => by simp [okD] at ho
  | n + 1, _, _, .ty _, ho => by simp [okD] at ho
  | 0, _, _, .any _, ho => by simp [okD] at ho
  | n + 1, _, _, .any _, ho => by simp [okD] at ho
theorem RepL.dp {K : PySem.W.Frag} {G H : Hp} (b : Ex G H) : ∀ {n : Nat} {ds : List D} {vs : List V}, RepL K G ds vs → ds.all (okD n) = true → DpAll K H vs (toPs ds) ∧ PyData.canLayAll0 (toPs ds) = true
  | _, _, _, .nil, _ => ⟨.nil, by simp [toPs, PyData.canLayAll0]⟩
  | _, _, _, .cons h r, ho => by
    rw [List.all_cons, Bool.and_eq_true] at ho
    have h1 := Rep.dp b h ho.1
    have h2 := RepL.dp b r ho.2
    exact ⟨.cons h1.1 h2.1, by rw [toPs, PyData.canLayAll0, h1.2, h2.2]; rfl⟩
end
theorem RepB.dp {K : PySem.W.Frag} {G H : Hp} (b : Ex G H) {d : D} {v : V} (h : RepB K G H d v) (ho : okD 60 d = true) : Dp K H v (toP d) ∧ SeqAt.shaped (toP d) = true := by
  have hs : (toP d).canLay0 = true → SeqAt.shaped (toP d) = true := fun c => by
    unfold SeqAt.shaped
    rw [c, decide_eq_true (Nat.le_trans (okD_depth _ _ ho) (by decide))]; rfl
  cases h with
  | lst h r =>
    have := RepL.dp (n := 59) b r (by rw [okD] at ho; exact ho)
    exact ⟨.lst (.of h) this.1, hs (by rw [toP, PyData.canLay0]; exact this.2)⟩
  | dK h r => simp [okD] at ho
  | dT h r => simp [okD] at ho
  | rep h =>
    have := Rep.dp b h ho
    exact ⟨this.1, hs this.2⟩
mutual
theorem eqv_toP : ∀ (d e : D), PyData.eqv (toP d) (toP e) = eqv d e
  | .non, e => by cases e <;> simp only [toP, eqv, PyData.eqv]
  | .bl _, e => by cases e <;> simp only [toP, eqv, PyData.eqv]
  | .int _, e => by cases e <;> simp only [toP, eqv, PyData.eqv]
  | .str x, e => by
    cases e <;> simp only [toP, eqv, PyData.eqv]
    rename_i y
    by_cases h : x = y
    · subst h; simp
    · rw [beq_eq_false_iff_ne.mpr h, beq_eq_false_iff_ne.mpr]
      intro z
      have z1 := congrArg Str.cps z
      have z2 := congrArg Array.toList z1
      simp at z2
      exact h z2
  | .lst xs, e => by
    cases e <;> simp only [toP, eqv, PyData.eqv]
    rename_i ys
    exact eqvL_toP xs ys
  | .tup xs, e => by
    cases e <;> simp only [toP, eqv, PyData.eqv]
    all_goals (rename_i ys; exact eqvL_toP xs ys)
  | .kt xs, e => by
    cases e <;> simp only [toP, eqv, PyData.eqv]
    all_goals (rename_i ys; exact eqvL_toP xs ys)
  | .dK _, e => by cases e <;> simp only [toP, eqv, PyData.eqv]
  | .dT _, e => by cases e <;> simp only [toP, eqv, PyData.eqv]
  | .ty _, e => by cases e <;> simp only [toP, eqv, PyData.eqv]
  | .cup, e => by cases e <;> simp only [toP, eqv, PyData.eqv]
  | .any, e => by cases e <;> simp only [toP, eqv, PyData.eqv]
  | .scr _, e => by cases e <;> simp only [toP, eqv, PyData.eqv]
theorem eqvL_toP : ∀ (ds es : List D), PyData.eqvAll (toPs ds) (toPs es) = eqvL ds es
  | [], [] => by simp only [toPs, eqvL, PyData.eqvAll]
  | [], _ :: _ => by simp only [toPs, eqvL, PyData.eqvAll]
  | _ :: _, [] => by simp only [toPs, eqvL, PyData.eqvAll]
  | d :: ds, e :: es => by simp only [toPs, eqvL, PyData.eqvAll, eqv_toP d e, eqvL_toP ds es]
end
/-- how deep == may look -/
def deep : Nat := 60
def dEq (d e : D) : M D := ask (okD deep d = true ∧ okD deep e = true) (ret (.bl (eqv d e)))
def dNe (d e : D) : M D := ask (okD deep d = true ∧ okD deep e = true) (ret (.bl (!eqv d e)))
theorem op_dEq (hu : X.A.units + 65 < cLine) : OpR X (compareOp .Eq) (rG2 X.K dEq) := by
  intro pins s σ H x y v u Q I rx ry ⟨G, d, e, P, b, hd, he, ⟨ho, hf⟩, k⟩
  obtain ⟨d1, s1⟩ := hd.dp b ho.1
  obtain ⟨d2, s2⟩ := he.dp b ho.2
  refine op_eqD (by omega) pins s σ H x y v u Q I rx ry ⟨_, _, d1, d2, s1, s2, ?_⟩
  rw [eqv_toP]
  exact k _ _ G H hf (.refl b) (.bl _)
theorem op_dNe (hu : X.A.units + 65 < cLine) : OpR X (compareOp .NotEq) (rG2 X.K dNe) := by
  intro pins s σ H x y v u Q I rx ry ⟨G, d, e, P, b, hd, he, ⟨ho, hf⟩, k⟩
  obtain ⟨d1, s1⟩ := hd.dp b ho.1
  obtain ⟨d2, s2⟩ := he.dp b ho.2
  refine op_neD (by omega) pins s σ H x y v u Q I rx ry ⟨_, _, d1, d2, s1, s2, ?_⟩
  rw [eqv_toP]
  exact k _ _ G H hf (.refl b) (.bl _)
/-- order: ints, texts, tuples of ints -/
def dLt : D → D → M D
  | .int a, .int b => ret (.bl (decide (a < b)))
  | .str a, .str b => ret (.bl (decide (a < b)))
  | _, _ => stuck
def dLe : D → D → M D
  | .int a, .int b => ret (.bl (decide (a ≤ b)))
  | .str a, .str b => ret (.bl (!decide (b < a)))
  | _, _ => stuck
def dGt : D → D → M D
  | .int a, .int b => ret (.bl (decide (b < a)))
  | .str a, .str b => ret (.bl (decide (b < a)))
  | _, _ => stuck
def dGe : D → D → M D
  | .int a, .int b => ret (.bl (decide (b ≤ a)))
  | .str a, .str b => ret (.bl (!decide (a < b)))
  | _, _ => stuck
theorem op_dLt : OpR X (compareOp .Lt) (rG2 X.K dLt) := by
  intro pins s σ H x y v u Q I rx ry ⟨G, d, e, P, b, hd, he, hf, k⟩
  unfold dLt at hf
  split at hf
  · cases hd.int_inv
    cases he.int_inv
    exact op_lt pins s σ H _ _ v u Q I rx ry ⟨_, _, rfl, rfl, k _ _ _ _ hf (.refl b) (.bl _)⟩
  · obtain ⟨rfl, _⟩ := hd.str_inv
    obtain ⟨rfl, _⟩ := he.str_inv
    exact op_lt_str pins s σ H _ _ v u Q I rx ry ⟨_, _, rfl, rfl, k _ _ _ _ hf (.refl b) (.bl _)⟩
  · exact hf.elim
theorem op_dLe : OpR X (compareOp .LtE) (rG2 X.K dLe) := by
  intro pins s σ H x y v u Q I rx ry ⟨G, d, e, P, b, hd, he, hf, k⟩
  unfold dLe at hf
  split at hf
  · cases hd.int_inv
    cases he.int_inv
    exact op_le pins s σ H _ _ v u Q I rx ry ⟨_, _, rfl, rfl, k _ _ _ _ hf (.refl b) (.bl _)⟩
  · obtain ⟨rfl, _⟩ := hd.str_inv
    obtain ⟨rfl, _⟩ := he.str_inv
    exact op_le_str pins s σ H _ _ v u Q I rx ry ⟨_, _, rfl, rfl, k _ _ _ _ hf (.refl b) (.bl _)⟩
  · exact hf.elim
theorem op_dGt : OpR X (compareOp .Gt) (rG2 X.K dGt) := by
  intro pins s σ H x y v u Q I rx ry ⟨G, d, e, P, b, hd, he, hf, k⟩
  unfold dGt at hf
  split at hf
  · cases hd.int_inv
    cases he.int_inv
    exact op_gt pins s σ H _ _ v u Q I rx ry ⟨_, _, rfl, rfl, k _ _ _ _ hf (.refl b) (.bl _)⟩
  · obtain ⟨rfl, _⟩ := hd.str_inv
    obtain ⟨rfl, _⟩ := he.str_inv
    exact op_gt_str pins s σ H _ _ v u Q I rx ry ⟨_, _, rfl, rfl, k _ _ _ _ hf (.refl b) (.bl _)⟩
  · exact hf.elim
theorem op_dGe : OpR X (compareOp .GtE) (rG2 X.K dGe) := by
  intro pins s σ H x y v u Q I rx ry ⟨G, d, e, P, b, hd, he, hf, k⟩
  unfold dGe at hf
  split at hf
  · cases hd.int_inv
    cases he.int_inv
    exact op_ge pins s σ H _ _ v u Q I rx ry ⟨_, _, rfl, rfl, k _ _ _ _ hf (.refl b) (.bl _)⟩
  · obtain ⟨rfl, _⟩ := hd.str_inv
    obtain ⟨rfl, _⟩ := he.str_inv
    exact op_ge_str pins s σ H _ _ v u Q I rx ry ⟨_, _, rfl, rfl, k _ _ _ _ hf (.refl b) (.bl _)⟩
  · exact hf.elim
/-- is: None on the right, or two bools -/
def isNon : D → Bool
  | .non => true
  | _ => false
def dIs : D → D → M D
  | .any, _ => stuck
  | .bl a, .bl b => ret (.bl (decide (a = b)))
  | d, .non => ret (.bl (isNon d))
  | _, _ => stuck
def dIsNot : D → D → M D
  | .any, _ => stuck
  | .bl a, .bl b => ret (.bl (!decide (a = b)))
  | d, .non => ret (.bl (!isNon d))
  | _, _ => stuck
theorem RepB.non_iff {K : PySem.W.Frag} {G H : Hp} {d : D} {v : V} (h : RepB K G H d v) (ha : d ≠ .any) : decide (v = .non) = isNon d := by
  cases h with
  | lst h r => rfl
  | dK h r => rfl
  | dT h r => rfl
  | rep h => cases h <;> first | rfl | exact absurd rfl ha
theorem op_dIs : OpR X (compareOp .Is) (rG2 X.K dIs) := by
  intro pins s σ H x y v u Q I rx ry ⟨G, d, e, P, b, hd, he, hf, k⟩
  unfold dIs at hf
  split at hf
  · exact hf.elim
  · cases hd.bl_inv
    cases he.bl_inv
    exact op_is_bl pins s σ H _ _ v u Q I rx ry ⟨_, _, rfl, rfl, k _ _ _ _ hf (.refl b) (.bl _)⟩
  · cases he.non_inv
    refine op_isN pins s σ H _ _ v u Q I rx ry ⟨rfl, ?_⟩
    rw [hd.non_iff (by assumption)]
    exact k _ _ _ _ hf (.refl b) (.bl _)
  · exact hf.elim
theorem op_dIsNot : OpR X (compareOp .IsNot) (rG2 X.K dIsNot) := by
  intro pins s σ H x y v u Q I rx ry ⟨G, d, e, P, b, hd, he, hf, k⟩
  unfold dIsNot at hf
  split at hf
  · exact hf.elim
  · cases hd.bl_inv
    cases he.bl_inv
    exact op_isnot_bl pins s σ H _ _ v u Q I rx ry ⟨_, _, rfl, rfl, k _ _ _ _ hf (.refl b) (.bl _)⟩
  · cases he.non_inv
    refine op_notN pins s σ H _ _ v u Q I rx ry ⟨rfl, ?_⟩
    rw [hd.non_iff (by assumption)]
    exact k _ _ _ _ hf (.refl b) (.bl _)
  · exact hf.elim
/-- in: one sign in a text; data in a list, a tuple -/
def memD (d : D) (xs : List D) : Bool := xs.any fun y => eqv y d
def dIn : D → D → M D
  | .str [c], .str s => ret (.bl (decide (c ∈ s)))
  | d, .lst xs => ask (okD deep d = true ∧ okD deep (.lst xs) = true) (ret (.bl (memD d xs)))
  | d, .tup xs => ask (okD deep d = true ∧ okD deep (.tup xs) = true) (ret (.bl (memD d xs)))
  | _, _ => stuck
def dNotIn : D → D → M D
  | .str [c], .str s => ret (.bl (!decide (c ∈ s)))
  | d, .lst xs => ask (okD deep d = true ∧ okD deep (.lst xs) = true) (ret (.bl (!memD d xs)))
  | d, .tup xs => ask (okD deep d = true ∧ okD deep (.tup xs) = true) (ret (.bl (!memD d xs)))
  | _, _ => stuck
theorem any_toP (d : D) (xs : List D) : (toPs xs).any (fun z => PyData.eqv z (toP d)) = memD d xs := by
  unfold memD
  induction xs with
  | nil => rfl
  | cons x r ih => rw [toPs, List.any_cons, List.any_cons, ih, eqv_toP]
theorem room_in {ds : List PyData} {d : PyData} {n : Nat} (h : SeqAt.shaped d = true) (hu : n + 65 < cLine) : n + 1 + min (PyData.depthAll ds) d.depth < cLine := by
  have := SeqAt.depth_of_shaped h
  omega
theorem op_dIn (hu : X.A.units + 65 < cLine) : OpR X (compareOp .In) (rG2 X.K dIn) := by
  intro pins s σ H x y v u Q I rx ry ⟨G, d, e, P, b, hd, he, hf, k⟩
  unfold dIn at hf
  split at hf
  · obtain ⟨rfl, _⟩ := hd.str_inv
    obtain ⟨rfl, _⟩ := he.str_inv
    refine op_in_sign pins s σ H _ _ v u Q I rx ry ⟨_, _, rfl, rfl, ?_⟩
    exact k _ _ _ _ hf (.refl b) (.bl _)
  · obtain ⟨ho, hf⟩ := hf
    obtain ⟨d1, s1⟩ := hd.dp b ho.1
    obtain ⟨d2, s2⟩ := he.dp b ho.2
    rw [toP] at d2 s2
    refine op_inD hu pins s σ H x y v u Q I rx ry ⟨_, _, d1, d2, s1, s2, ?_⟩
    rw [any_toP]
    exact k _ _ G H hf (.refl b) (.bl _)
  · obtain ⟨ho, hf⟩ := hf
    obtain ⟨d1, s1⟩ := hd.dp b ho.1
    obtain ⟨d2, s2⟩ := he.dp b ho.2
    rw [toP] at d2 s2
    obtain ⟨as, r1⟩ := Dp.reads I _ _ v d1 rx
    obtain ⟨bs, r2⟩ := Dp.reads I _ _ u d2 ry
    have c := SeqAt.canLay_of_shaped s2
    refine SeqAt.in_tuple_reads r2 r1 (by simpa [PyData.canLay0] using c) (SeqAt.canLay_of_shaped s1) (room_in s1 hu) ⟨.bl _, H, I, rfl, ?_⟩
    rw [any_toP]
    exact k _ _ G H hf (.refl b) (.bl _)
  · exact hf.elim
theorem op_dNotIn (hu : X.A.units + 65 < cLine) : OpR X (compareOp .NotIn) (rG2 X.K dNotIn) := by
  intro pins s σ H x y v u Q I rx ry ⟨G, d, e, P, b, hd, he, hf, k⟩
  unfold dNotIn at hf
  split at hf
  · obtain ⟨rfl, _⟩ := hd.str_inv
    obtain ⟨rfl, _⟩ := he.str_inv
    refine op_notIn_sign pins s σ H _ _ v u Q I rx ry ⟨_, _, rfl, rfl, ?_⟩
    exact k _ _ _ _ hf (.refl b) (.bl _)
  · obtain ⟨ho, hf⟩ := hf
    obtain ⟨d1, s1⟩ := hd.dp b ho.1
    obtain ⟨d2, s2⟩ := he.dp b ho.2
    rw [toP] at d2 s2
    refine op_notInD hu pins s σ H x y v u Q I rx ry ⟨_, _, d1, d2, s1, s2, ?_⟩
    rw [any_toP]
    exact k _ _ G H hf (.refl b) (.bl _)
  · obtain ⟨ho, hf⟩ := hf
    obtain ⟨d1, s1⟩ := hd.dp b ho.1
    obtain ⟨d2, s2⟩ := he.dp b ho.2
    rw [toP] at d2 s2
    obtain ⟨as, r1⟩ := Dp.reads I _ _ v d1 rx
    obtain ⟨bs, r2⟩ := Dp.reads I _ _ u d2 ry
    have c := SeqAt.canLay_of_shaped s2
    refine SeqAt.notIn_tuple_reads r2 r1 (by simpa [PyData.canLay0] using c) (SeqAt.canLay_of_shaped s1) (room_in s1 hu) ⟨.bl _, H, I, rfl, ?_⟩
    rw [any_toP]
    exact k _ _ G H hf (.refl b) (.bl _)
  · exact hf.elim

/-! ### items, cuts -/
/-- the place of an index among n, 0 to n - 1 -/
def ixD (n : Nat) (i : Int) : Option Nat := if 0 ≤ i then (if i < n then some i.toNat else none) else if -(n : Int) ≤ i then some (i + n).toNat else none
def atD {α : Type} (xs : List α) (i : Int) : Option α := (ixD xs.length i).bind fun j => xs[j]?
def dIx : D → D → M D
  | .lst xs, .int i => fun P => match atD xs i with | some d => P d | none => False
  | .tup xs, .int i => fun P => match atD xs i with | some d => P d | none => False
  | .kt xs, .int i => fun P => match atD xs i with | some d => P d | none => False
  | .str s, .int i => fun P => match atD s i with | some c => s.length ≤ lim ∧ P (.str [c]) | none => False
  | _, _ => stuck
theorem RepL.at {K : PySem.W.Frag} {G : Hp} {ds : List D} {vs : List V} (r : RepL K G ds vs) {i : Int} {d : D} (h : atD ds i = some d) : ∃ v, L2.atI vs i = some v ∧ Rep K G d v := by
  unfold atD at h
  rw [r.len] at h
  cases e : ixD vs.length i with
  | none => rw [e] at h; cases h
  | some j =>
    rw [e] at h
    obtain ⟨v, h1, h2⟩ := r.get (i := j) h
    refine ⟨v, ?_, h2⟩
    unfold L2.atI
    have e2 : L2.ixN vs.length i = some j := e
    rw [e2]
    exact h1
theorem atD_mem {α : Type} {xs : List α} {i : Int} {z : α} (h : atD xs i = some z) : z ∈ xs := by
  unfold atD at h
  cases e : ixD xs.length i with
  | none => rw [e] at h; cases h
  | some j => rw [e] at h; exact List.mem_of_getElem? h
theorem ix_dIx : IxR X (rG2 X.K dIx) := by
  intro value slice pins s σ H x y v u Q I rx ry ⟨G, d, e, P, b, hd, he, hf, k⟩ hs
  unfold dIx at hf
  split at hf
  · obtain ⟨a, vs, rfl, h1, r1⟩ := hd.lst_inv b
    cases he.int_inv
    split at hf
    · rename_i z hz
      obtain ⟨w, h2, h3⟩ := r1.at hz
      exact ix_list value slice pins s σ H _ _ v u Q I rx ry ⟨a, vs, _, w, rfl, rfl, .of h1, h2, k _ _ _ _ hf (.refl b) h3⟩ hs
    · exact hf.elim
  · obtain ⟨a, vs, rfl, h1, r1⟩ := hd.tup_inv b
    cases he.int_inv
    split at hf
    · rename_i z hz
      obtain ⟨w, h2, h3⟩ := r1.at hz
      exact ix_tup value slice pins s σ H _ _ v u Q I rx ry ⟨a, vs, _, w, rfl, rfl, h1, h2, k _ _ _ _ hf (.refl b) h3⟩ hs
    · exact hf.elim
  · obtain ⟨a, vs, rfl, h1, r1⟩ := hd.kt_inv
    cases he.int_inv
    split at hf
    · rename_i z hz
      obtain ⟨w, h2, h3⟩ := r1.at hz
      exact ix_tup value slice pins s σ H _ _ v u Q I rx ry ⟨a, vs, _, w, rfl, rfl, h1, h2, k _ _ _ _ hf (.refl b) h3⟩ hs
    · exact hf.elim
  · obtain ⟨rfl, h1⟩ := hd.str_inv
    cases he.int_inv
    split at hf
    · rename_i z hz
      have hm := atD_mem hz
      have ho : sOk [z] = true := by
        have := List.all_eq_true.mp h1 z hm
        unfold sOk; rw [List.all_cons, this]; rfl
      refine ix_str value slice pins s σ H _ _ v u Q I rx ry ⟨_, _, z, rfl, rfl, ?_, ?_, k _ _ _ _ hf.2 (.refl b) (.str _ ho)⟩ hs
      · have := lim_le hf.1
        simpa [Str.length] using this
      · exact hz
    · exact hf.elim
  · exact hf.elim
end
end G
set_option Elab.async false
set_option linter.all false
set_option maxRecDepth 100000
namespace G
open PySem PySem.Spec PyProof.Rows L2

/-! ### statements -/
structure DE where
  nx : Env → Prop
  rt : D → Prop
  bk : Env → Prop
  ct : Env → Prop
abbrev SM := DE → Env → Prop
structure Comp (K : PySem.W.Frag) (G0 H0 : Hp) (E : DE) (Dn : Ends) : Prop where
  nx : ∀ env σ G H, E.nx env → Ok K G0 H0 G H σ env → Dn.nx σ H
  rt : ∀ d v G H, E.rt d → Gr G0 H0 G H → Rep K G d v → Dn.rt v H
  bk : ∀ env σ G H, E.bk env → Ok K G0 H0 G H σ env → Dn.bk σ H
  ct : ∀ env σ G H, E.ct env → Ok K G0 H0 G H σ env → Dn.ct σ H
def tGS (K : PySem.W.Frag) (S : SM) : TS := fun Dn σ H => ∃ G0 H0 G env E, Ok K G0 H0 G H σ env ∧ S E env ∧ Comp K G0 H0 E Dn
abbrev GS (X : Cx) (st : Stmt) (S : SM) : Prop := PS X st (tGS X.K S)
abbrev GSs (X : Cx) (st : List Stmt) (S : SM) : Prop := PSs X st (tGS X.K S)
section
variable {X : Cx} {st : Stmt} {sts : List Stmt} {S T : SM} {e c : Expr} {m n : EM} {pos : Pos} {tc : Env → M Bool}
theorem ps_imp {t t' : TS} (h : PS X st t) (k : ∀ Dn σ H, t' Dn σ H → t Dn σ H) : PS X st t' := ⟨fun pins s σ H Dn I q => h.run pins s σ H Dn I (k Dn σ H q)⟩
theorem pss_imp {t t' : TS} (h : PSs X sts t) (k : ∀ Dn σ H, t' Dn σ H → t Dn σ H) : PSs X sts t' := ⟨fun pins s σ H Dn I q => h.run pins s σ H Dn I (k Dn σ H q)⟩
def sNil : SM := fun E env => E.nx env
def sSeq (S T : SM) : SM := fun E env => S { E with nx := T E } env
def sStuck : SM := fun _ _ => False
def sRet (m : EM) : SM := fun E env => m env E.rt
def sExpr (m : EM) : SM := fun E env => m env fun _ => E.nx env
def sIf (t : Env → M Bool) (S T : SM) : SM := fun E env => t env fun c => match c with | true => S E env | false => T E env
def sBreak : SM := fun E env => E.bk env
def sCont : SM := fun E env => E.ct env
def sSet (i : Nat) (m : EM) : SM := fun E env => m env fun d => E.nx (setS env i (.fz d))
def sSetO (i : Nat) (m : EM) : SM := fun E env => m env fun d => E.nx (setS env i (.ow d))
/-- the i-th slot's thing is frozen -/
def frzS (env : Env) (i : Nat) : Env := match getS env i with | .ow d => setS env i (.fz d) | _ => env
def sFrz (i : Nat) (S : SM) : SM := fun E env => S E (frzS env i)
theorem gss_nil : GSs X [] sNil := pss_imp pss_nil fun Dn σ H ⟨G0, H0, G, env, E, ok, h, k⟩ => k.nx _ _ _ _ h ok
theorem gss_cons (h1 : GS X st S) (h2 : GSs X sts T) : GSs X (st :: sts) (sSeq S T) := pss_imp (pss_cons h1 h2) fun Dn σ H ⟨G0, H0, G, env, E, ok, h, k⟩ =>
  ⟨G0, H0, G, env, _, ok, h, ⟨fun env σ G H q o => ⟨G0, H0, G, env, E, o, q, k⟩, k.rt, k.bk, k.ct⟩⟩
theorem gss_one (h1 : GS X st S) : GSs X [st] S := pss_one h1
theorem gss_frz (i : Nat) (h : GSs X sts S) : GSs X sts (sFrz i S) := pss_imp h fun Dn σ H ⟨G0, H0, G, env, E, ok, q, k⟩ => by
  unfold sFrz frzS at q
  split at q
  · rename_i d e
    obtain ⟨G', _, ok'⟩ := ok.frz e
    exact ⟨G0, H0, G', _, E, ok', q, k⟩
  · exact ⟨G0, H0, G, env, E, ok, q, k⟩
theorem gs_frz (i : Nat) (h : GS X st S) : GS X st (sFrz i S) := ps_imp h fun Dn σ H ⟨G0, H0, G, env, E, ok, q, k⟩ => by
  unfold sFrz frzS at q
  split at q
  · rename_i d e
    obtain ⟨G', _, ok'⟩ := ok.frz e
    exact ⟨G0, H0, G', _, E, ok', q, k⟩
  · exact ⟨G0, H0, G, env, E, ok, q, k⟩
theorem gs_stuck : GS X st sStuck := ps_imp ps_never fun Dn σ H ⟨_, _, _, _, _, _, h, _⟩ => h
theorem gs_pass : GS X (.Pass pos) sNil := ps_imp ps_pass fun Dn σ H ⟨G0, H0, G, env, E, ok, h, k⟩ => k.nx _ _ _ _ h ok
theorem gs_break : GS X (.Break pos) sBreak := ps_imp ps_break fun Dn σ H ⟨G0, H0, G, env, E, ok, h, k⟩ => k.bk _ _ _ _ h ok
theorem gs_cont : GS X (.Continue pos) sCont := ps_imp ps_continue fun Dn σ H ⟨G0, H0, G, env, E, ok, h, k⟩ => k.ct _ _ _ _ h ok
theorem gs_ret (h : GE X e m) : GS X (.Return (some e) pos) (sRet m) := ps_imp (ps_ret h) fun Dn σ H ⟨G0, H0, G, env, E, ok, q, k⟩ =>
  ⟨G0, H0, G, env, _, ok, q, fun d v G' H' p r y => k.rt d v G' H' p (ok.gr.trans r) y⟩
theorem gs_retN : GS X (.Return none pos) (fun E _ => E.rt .non) := ps_imp ps_retN fun Dn σ H ⟨G0, H0, G, env, E, ok, q, k⟩ => k.rt .non .non G H q ok.gr .non
theorem gs_expr (h : GE X e m) (hs : swapsWith e none pos.line X.env = pure false := by rfl) : GS X (.Expr e pos) (sExpr m) := ps_imp (ps_expr h hs) fun Dn σ H ⟨G0, H0, G, env, E, ok, q, k⟩ =>
  ⟨G0, H0, G, env, _, ok, q, fun d v G' H' p r y => k.nx _ _ _ _ p (ok.mono r)⟩
theorem gs_if {a b : List Stmt} (hc : GT X c tc) (ha : GSs X a S) (hb : GSs X b T) : GS X (.If c a b pos) (sIf tc S T) := ps_imp (ps_if hc ha hb) fun Dn σ H ⟨G0, H0, G, env, E, ok, q, k⟩ =>
  ⟨G0, H0, G, env, _, ok, q, fun c G' H' p r => by
    cases c with
    | true => exact ⟨G0, H0, G', env, E, ok.mono r, p, k⟩
    | false => exact ⟨G0, H0, G', env, E, ok.mono r, p, k⟩⟩
theorem gs_set (i : Nat) {x : Str} {pos' : Pos} (hN : X.N.Nodup) (h : GE X e m) (hi : X.N[i]? = some x := by rfl) (hx : Loc X.env.scope x := by first | exact Or.inl rfl | exact Or.inr rfl) (hs : swapsWith e (some (.Name x pos')) pos.line X.env = pure false := by rfl)
    (hf : X.fn x = true ∨ X.env.scope.names.lookup x = some .local := by first | exact .inl rfl | exact .inr rfl | assumption) : GS X (.Assign [.Name x pos'] e pos) (sSet i m) := ps_imp (ps_set hN hi hx h hs hf) fun Dn σ H ⟨G0, H0, G, env, E, ok, q, k⟩ =>
  ⟨G0, H0, G, env, _, ok, q, fun d v G' H' p r y => k.nx _ _ _ _ p ((ok.mono r).set y)⟩
theorem gs_setO (i : Nat) {x : Str} {pos' : Pos} (hN : X.N.Nodup) (h : FE X e m) (hi : X.N[i]? = some x := by rfl) (hx : Loc X.env.scope x := by first | exact Or.inl rfl | exact Or.inr rfl) (hs : swapsWith e (some (.Name x pos')) pos.line X.env = pure false := by rfl)
    (hf : X.fn x = true ∨ X.env.scope.names.lookup x = some .local := by first | exact .inl rfl | exact .inr rfl | assumption) : GS X (.Assign [.Name x pos'] e pos) (sSetO i m) := ps_imp (ps_set hN hi hx h hs hf) fun Dn σ H ⟨G0, H0, G, env, E, ok, q, k⟩ =>
  ⟨G0, H0, G, env, _, ok, q, fun d a G' H' p r h1 h2 h3 => k.nx _ _ _ _ p (ok.setN r h1 h2 h3)⟩
/-- x, y = a, b -/
def sPar (i j : Nat) (ms : Env → M (List D)) : SM := fun E env => ms env fun ds => match ds with | [d, e] => E.nx (setS (setS env i (.fz d)) j (.fz e)) | _ => False
theorem gs_par (i j : Nat) {x y : Str} {a b : Expr} {ms : Env → M (List D)} {px py pt : Pos} {kt k2 pt2} (hc : X.calm = true) (hN : X.N.Nodup) (ha : GA X [a, b] ms) (hi : X.N[i]? = some x := by rfl) (hj : X.N[j]? = some y := by rfl) (hij : i ≠ j := by decide)
    (h : PS X (.Assign [.Tuple [.Name x px, .Name y py] kt pt] (.Tuple [a, b] k2 pt2) pos) (tPar i j (tGA X.K ms))) : GS X (.Assign [.Tuple [.Name x px, .Name y py] kt pt] (.Tuple [a, b] k2 pt2) pos) (sPar i j ms) := ps_imp h fun Dn σ H ⟨G0, H0, G, env, E, ok, q, k⟩ =>
  ⟨G0, H0, G, env, _, ok, q, fun ds vs G' H' p r y => by
    cases y with
    | nil => exact p.elim
    | cons h1 y => cases y with
      | nil => exact p.elim
      | cons h2 y => cases y with
        | nil => exact ⟨_, _, rfl, k.nx _ _ _ _ p (((ok.mono r).set h1).set h2)⟩
        | cons h3 y => exact p.elim⟩
/-! targets -/
abbrev GM := D → Env → (Env → Prop) → Prop
def tGG (K : PySem.W.Frag) (ts : List Nat) (g : GM) : TG := fun v σ H Q => ∃ G0 H0 G env d P, Ok K G0 H0 G H σ env ∧ Rep K G d v ∧ g d env P ∧ ∀ env' σ', P env' → Ok K G0 H0 G H σ' env' → σ'.length = σ.length → (∀ j, j ∉ ts → σ'[j]? = σ[j]?) → Q σ' H
abbrev GG (X : Cx) (tg : Expr) (ts : List Nat) (g : GM) : Prop := PG X tg (tGG X.K ts g)
abbrev GMs := List D → Env → (Env → Prop) → Prop
def tGGs (K : PySem.W.Frag) (ts : List Nat) (g : GMs) : TGs := fun vs σ H Q => ∃ G0 H0 G env ds P, Ok K G0 H0 G H σ env ∧ RepL K G ds vs ∧ g ds env P ∧ ∀ env' σ', P env' → Ok K G0 H0 G H σ' env' → σ'.length = σ.length → (∀ j, j ∉ ts → σ'[j]? = σ[j]?) → Q σ' H
abbrev GGs (X : Cx) (tg : List Expr) (ts : List Nat) (g : GMs) : Prop := PGs X tg (tGGs X.K ts g)
theorem pg_imp {t t' : TG} (h : PG X e t) (k : ∀ v σ H Q, t' v σ H Q → t v σ H Q) : PG X e t' := ⟨by
  intros; exact h.run _ _ _ _ _ _ _ (by assumption) (by assumption) (k _ _ _ _ (by assumption))⟩
theorem pgs_imp {es : List Expr} {t t' : TGs} (h : PGs X es t) (k : ∀ v σ H Q, t' v σ H Q → t v σ H Q) : PGs X es t' := ⟨by
  intros; exact h.run _ _ _ _ _ _ _ (by assumption) (by assumption) (k _ _ _ _ (by assumption))⟩
def gN (i : Nat) : GM := fun d env P => P (setS env i (.fz d))
def gT (g : GMs) : GM := fun d env P => match d with | .tup ds => g ds env P | _ => False
def gsNil : GMs := fun ds env P => match ds with | [] => P env | _ => False
def gsCons (g : GM) (gs : GMs) : GMs := fun ds env P => match ds with | d :: r => g d env fun env' => gs r env' P | [] => False
theorem gg_name (i : Nat) {x : Str} (hN : X.N.Nodup) (hi : X.N[i]? = some x := by rfl) (hx : Loc X.env.scope x := by first | exact Or.inl rfl | exact Or.inr rfl) (hf : X.fn x = true ∨ X.env.scope.names.lookup x = some .local := by first | exact .inl rfl | exact .inr rfl | assumption) : GG X (.Name x pos) [i] (gN i) :=
  pg_imp (pg_name hN hi hx hf) fun v σ H Q ⟨G0, H0, G, env, d, P, ok, r, q, k⟩ => k _ _ q (ok.set r) (List.length_set ..) fun j hj => List.getElem?_set_ne fun z => hj (by simp [z])
theorem ggs_nil : GGs X [] [] gsNil := pgs_imp pgs_nil fun v σ H Q ⟨G0, H0, G, env, d, P, ok, r, q, k⟩ => by
  cases r with
  | nil => exact ⟨rfl, k _ _ q ok rfl fun _ _ => rfl⟩
  | cons _ _ => exact q.elim
theorem ggs_cons {es : List Expr} {ts us : List Nat} {g : GM} {gs : GMs} (h1 : GG X e ts g) (h2 : GGs X es us gs) (hs : (assignEach (e :: es) X.env).map (·.2) = assign e X.env :: (assignEach es X.env).map (·.2) := by rfl) : GGs X (e :: es) (ts ++ us) (gsCons g gs) := pgs_imp (pgs_cons h1 h2 hs) fun v σ H Q ⟨G0, H0, G, env, d, P, ok, r, q, k⟩ => by
  cases r with
  | nil => exact q.elim
  | cons h r => exact ⟨_, _, rfl, G0, H0, G, env, _, _, ok, h, q, fun env' σ' p o hl hj => ⟨G0, H0, G, env', _, _, o, r, p, fun env2 σ2 p2 o2 hl2 hj2 => k env2 σ2 p2 o2 (hl2.trans hl) fun j hj3 =>
      (hj2 j fun z => hj3 (List.mem_append_right _ z)).trans (hj j fun z => hj3 (List.mem_append_left _ z))⟩⟩
def gTn (n : Nat) (g : GMs) : GM := fun d env P => match d with | .tup ds => ds.length = n ∧ g ds env P | .kt ds => ds.length = n ∧ g ds env P | _ => False
theorem gg_tup {es : List Expr} {kk : Nat} {ts : List Nat} {g : GMs} (n : Nat) (h : PG X (.Tuple es kk pos) (gTup X.K n (tGGs X.K ts g))) : GG X (.Tuple es kk pos) ts (gTn n g) := pg_imp h fun v σ H Q ⟨G0, H0, G, env, d, P, ok, r, q, k⟩ => by
  unfold gTn at q
  split at q
  · cases r with
    | tup h r => exact ⟨_, _, rfl, .of (ok.gr.b _ _ h), r.len.symm.trans q.1, G0, H0, G, env, _, P, ok, r, q.2, k⟩
  · cases r with
    | kt h r => exact ⟨_, _, rfl, kt_at h, r.len.symm.trans q.1, G0, H0, G, env, _, P, ok, r, q.2, k⟩
  · exact q.elim
def sAsg (g : GM) (m : EM) : SM := fun E env => m env fun d => g d env E.nx
theorem gs_asg {tg : Expr} {ts : List Nat} {g : GM} (he : GE X e m) (hg : GG X tg ts g) (hs : swapsWithSole [tg] e pos.line X.env = pure false := by rfl) (hw : swappedStores [tg] e X.env = pure none := by rfl) (h1 : (assignEach [tg] X.env).map (·.2) = [assign tg X.env] := by rfl) : GS X (.Assign [tg] e pos) (sAsg g m) :=
  ps_imp (ps_asg he hg hs hw h1) fun Dn σ H ⟨G0, H0, G, env, E, ok, q, k⟩ => ⟨G0, H0, G, env, _, ok, q, fun d v G' H' p r y => ⟨G0, H0, G', env, d, _, ok.mono r, y, p, fun env' σ' p' o _ _ => k.nx _ _ _ _ p' o⟩⟩

/-! ### iteration -/
structure ItOk (K : PySem.W.Frag) (G Hs : Hp) (J : It) (ds : List D) : Prop where
  go : ∀ i d, ds[i]? = some d → ∀ G' H', Ex G G' → Ex Hs H' → Ex G' H' → J.go i H' ∧ ∀ x H'', J.yld i H' x H'' → ∃ G'', Gr G' H' G'' H'' ∧ Rep K G'' d x
  stop : ∀ i G' H', ds.length ≤ i → Ex G G' → Ex Hs H' → Ex G' H' → J.stop i H'
/-- an iteration by what it walks; the lent one stands as long as nothing changes -/
def tGI (K : PySem.W.Frag) (m : Env → M (List D)) : TI := fun σ H R => ∃ G0 H0 G env P, Ok K G0 H0 G H σ env ∧ m env P ∧ ∀ ds J G' H', P ds → Gr G H G' H' → ItOk K G' G' J ds → R J H'
def tBI (K : PySem.W.Frag) (m : Env → M (List D)) : TI := fun σ H R => ∃ G0 H0 G env P, Ok K G0 H0 G H σ env ∧ m env P ∧ ∀ ds J G' H', P ds → Gr G H G' H' → ItOk K G' H' J ds → R J H'
abbrev GI (X : Cx) (tg it : Expr) (m : Env → M (List D)) : Prop := PI X tg it (tGI X.K m)
abbrev BI (X : Cx) (tg it : Expr) (m : Env → M (List D)) : Prop := PI X tg it (tBI X.K m)
theorem pi_imp {tg : Expr} {t t' : TI} (h : PI X tg e t) (k : ∀ σ H R, t' σ H R → t σ H R) : PI X tg e t' := ⟨fun pins s σ H R I q => h.run pins s σ H R I (k σ H R q)⟩
theorem ItOk.weak {K : PySem.W.Frag} {G Hs H2 : Hp} {J : It} {ds : List D} (h : ItOk K G Hs J ds) (e : Ex Hs H2) : ItOk K G H2 J ds :=
  ⟨fun i d hd G' H' a b c => h.go i d hd G' H' a (e.trans b) c, fun i G' H' hd a b c => h.stop i G' H' hd a (e.trans b) c⟩
theorem bi_gi {tg : Expr} {m : Env → M (List D)} (h : GI X tg e m) : BI X tg e m := pi_imp h fun σ H R ⟨G0, H0, G, env, P, ok, q, k⟩ => ⟨G0, H0, G, env, P, ok, q, fun ds J G' H' p r i => k ds J G' H' p r (i.weak r.b)⟩
def signsD (s : List Nat) : List D := s.map fun c => .str [c]
/-- what a list, a tuple, a text gives, one by one -/
def seqD : D → M (List D)
  | .lst ds => ret ds
  | .tup ds => ret ds
  | .kt ds => ret ds
  | .str s => ret (signsD s)
  | _ => stuck
def iSeq (m : EM) : Env → M (List D) := fun env P => m env fun d => seqD d P
theorem it_l {K : PySem.W.Frag} {G Hs : Hp} {a : Addr} {ds : List D} {vs : List V} (h : SqL K Hs a vs) (r : RepL K G ds vs) : ItOk K G Hs (Itl K a) ds :=
  ⟨fun i d hd G' H' e1 e2 e3 => by
    obtain ⟨v, hv, hr⟩ := r.get hd
    exact ⟨⟨vs, v, ex_l e2 h, hv⟩, fun x H'' ⟨hh, y⟩ => by
      subst hh
      have hx : v = x := Option.some.inj (hv.symm.trans (y vs (ex_l e2 h)))
      subst hx
      exact ⟨G', .refl e3, hr.mono e1⟩⟩, fun i G' H' hl e1 e2 e3 => ⟨vs, ex_l e2 h, by rw [← r.len]; exact hl⟩⟩
theorem it_t {K : PySem.W.Frag} {G Hs : Hp} {a : Addr} {ds : List D} {vs : List V} (h : SqT K Hs a vs) (r : RepL K G ds vs) : ItOk K G Hs (Itt K a) ds :=
  ⟨fun i d hd G' H' e1 e2 e3 => by
    obtain ⟨v, hv, hr⟩ := r.get hd
    exact ⟨⟨vs, v, ex_t e2 h, hv⟩, fun x H'' ⟨hh, y⟩ => by
      subst hh
      have hx : v = x := Option.some.inj (hv.symm.trans (y vs (ex_t e2 h)))
      subst hx
      exact ⟨G', .refl e3, hr.mono e1⟩⟩, fun i G' H' hl e1 e2 e3 => ⟨vs, ex_t e2 h, by rw [← r.len]; exact hl⟩⟩
theorem sOk_one {s : List Nat} (h : sOk s = true) {c : Nat} (hc : c ∈ s) : sOk [c] = true := by
  have := List.all_eq_true.mp h c hc
  unfold sOk; rw [List.all_cons, this]; rfl
theorem it_s {K : PySem.W.Frag} {G Hs : Hp} {s : List Nat} (h : sOk s = true) : ItOk K G Hs (Its ⟨s.toArray⟩) (signsD s) :=
  ⟨fun i d hd G' H' e1 e2 e3 => by
    unfold signsD at hd
    rw [List.getElem?_map] at hd
    cases hc : s[i]? with
    | none => rw [hc] at hd; cases hd
    | some c =>
      rw [hc] at hd
      cases hd
      have hl : i < s.length := (List.getElem?_eq_some_iff.mp hc).1
      exact ⟨by show i < s.toArray.size; simpa using hl, fun x H'' ⟨hh, c', h1, h2⟩ => by
        subst hh h2
        have h3 : s[i]? = some c' := by simpa using h1
        rw [hc] at h3
        cases h3
        exact ⟨G', .refl e3, .str [c] (sOk_one h (List.mem_of_getElem? hc))⟩⟩, fun i G' H' hl e1 e2 e3 => by
    show s.toArray.size ≤ i
    unfold signsD at hl
    simpa using hl⟩
theorem run_list {pins : List (Addr × Obj)} {σ : L2.St} {H : Hp} {s : Shared} {R : It → Hp → Prop} {E : Value → Shared → Prop} {tg : Expr} {a : Addr} {xs : List V} (I : Inv X pins σ H s) (h : SqL X.K H a xs) (q : R (Itl X.K a) H) : wpAny (model X.prog X.w) X.A (pyIter (.ref a)) (PIE X pins σ tg R) E s := by
  obtain ⟨its, _, p, _⟩ := I.list h
  exact wpAny_pyIter_list p.isList ⟨_, [_], _, _, H, rfl, I.kept (t' := s.toks) (fun _ _ e => Heap.get?_push_of_some _ e), turn_list a _, ⟨_, Heap.get?_push_size _ rfl, rfl, rfl⟩, fun b hb => by
    cases List.mem_singleton.mp hb
    exact I.fpOk (Nat.le_refl _) (I.hok.fresh (Nat.le_refl _)), q⟩
theorem run_tup {pins : List (Addr × Obj)} {σ : L2.St} {H : Hp} {s : Shared} {R : It → Hp → Prop} {E : Value → Shared → Prop} {tg : Expr} {a : Addr} {xs : List V} (I : Inv X pins σ H s) (h : SqT X.K H a xs) (q : R (Itt X.K a) H) : wpAny (model X.prog X.w) X.A (pyIter (.ref a)) (PIE X pins σ tg R) E s := by
  obtain ⟨its, _, p, _⟩ := I.tuple h
  exact wpAny_pyIter_tuple (show s.heap.IsTuple a its.toArray from p) ⟨_, [_], _, _, H, rfl, I.kept (t' := s.toks) (fun _ _ e => Heap.get?_push_of_some _ e), turn_tuple a _, ⟨_, Heap.get?_push_size _ rfl, rfl, rfl⟩, fun b hb => by
    cases List.mem_singleton.mp hb
    exact I.fpOk (Nat.le_refl _) (I.hok.fresh (Nat.le_refl _)), q⟩
theorem run_str {pins : List (Addr × Obj)} {σ : L2.St} {H : Hp} {s : Shared} {R : It → Hp → Prop} {E : Value → Shared → Prop} {tg : Expr} {x : Str} {t : Tok} (I : Inv X pins σ H s) (q : R (Its x) H) : wpAny (model X.prog X.w) X.A (pyIter (.str x t)) (PIE X pins σ tg R) E s := by
  cases ha : x.cps.all (· < 128)
  · exact wpAny_pyIter_wide ha (pi_one (tk := s.toks) I _ (turn_str _ x t "str_iterator" (.inr rfl)) ⟨_, Heap.get?_push_size _ rfl, rfl, rfl⟩ q)
  · exact wpAny_pyIter_ascii ha (pi_one (tk := s.toks) I _ (turn_str _ x t "str_ascii_iterator" (.inl rfl)) ⟨_, Heap.get?_push_size _ rfl, rfl, rfl⟩ q)
theorem gi_seq {tg : Expr} (h : GE X e m) : GI X tg e (iSeq m) := ⟨fun pins s σ H R I ⟨G0, H0, G, env, P, ok, q, k⟩ => by
  refine thn (h.run pins s σ H _ I ⟨G0, H0, G, env, _, ok, q, fun d v G' H' p r y => show (fun v H' => ∃ d G', seqD d P ∧ Gr G H G' H' ∧ Rep X.K G' d v) v H' from ⟨d, G', p, r, y⟩⟩) fun v s1 ⟨x, H1, I1, r1, d, G', p, r, y⟩ => ?_
  unfold seqD at p
  split at p
  · cases y with
    | lst h rl => cases r1; exact run_list I1 (.of (r.b _ _ h)) (k _ _ _ _ p r (it_l (.of h) rl))
  · cases y with
    | tup h rl => cases r1; exact run_tup I1 (.of (r.b _ _ h)) (k _ _ _ _ p r (it_t (.of h) rl))
  · cases y with
    | kt h rl => cases r1; exact run_tup I1 (kt_at h) (k _ _ _ _ p r (it_t (kt_at h) rl))
  · cases y with
    | str s ho =>
      obtain ⟨t, rfl⟩ := r1
      exact run_str I1 (k _ _ _ _ p r (it_s ho))
  · exact p.elim⟩
theorem bi_seq {tg : Expr} (h : BE X e m) : BI X tg e (iSeq m) := ⟨fun pins s σ H R I ⟨G0, H0, G, env, P, ok, q, k⟩ => by
  refine thn (h.run pins s σ H _ I ⟨G0, H0, G, env, _, ok, q, fun d v G' H' p r y => show (fun v H' => ∃ d G', seqD d P ∧ Gr G H G' H' ∧ RepB X.K G' H' d v) v H' from ⟨d, G', p, r, y⟩⟩) fun v s1 ⟨x, H1, I1, r1, d, G', p, r, y⟩ => ?_
  unfold seqD at p
  split at p
  · obtain ⟨a, vs, rfl, h1, h2⟩ := y.lst_inv r.b
    cases r1
    exact run_list I1 (.of h1) (k _ _ _ _ p r (it_l (.of h1) h2))
  · obtain ⟨a, vs, rfl, h1, h2⟩ := y.tup_inv r.b
    cases r1
    exact run_tup I1 h1 (k _ _ _ _ p r (it_t h1 h2))
  · obtain ⟨a, vs, rfl, h1, h2⟩ := y.kt_inv
    cases r1
    exact run_tup I1 h1 (k _ _ _ _ p r (it_t h1 h2))
  · obtain ⟨rfl, ho⟩ := y.str_inv
    obtain ⟨t, rfl⟩ := r1
    exact run_str I1 (k _ _ _ _ p r (it_s ho))
  · exact p.elim⟩
/-- lo, lo + 1, .. -/
def rngD (lo : Int) (n : Nat) : List D := (List.range n).map fun (i : Nat) => .int (lo + (i : Int))
def far (i : Int) : Prop := -1000000000000 ≤ i ∧ i ≤ 1000000000000
def iRng1m (ms : Env → M (List D)) : Env → M (List D) := fun env P => ms env fun ds => match ds with | [.int j] => far j ∧ P (rngD 0 j.toNat) | _ => False
def iRng2m (ms : Env → M (List D)) : Env → M (List D) := fun env P => ms env fun ds => match ds with | [.int i, .int j] => (far i ∧ far j) ∧ P (rngD i (j - i).toNat) | _ => False
theorem it_r {K : PySem.W.Frag} {G Hs : Hp} {lo : Int} {n : Nat} : ItOk K G Hs (Itr lo n) (rngD lo n) := by
  refine ⟨fun i d hd G' H' e1 e2 e3 => ?_, fun i G' H' hl _ _ _ => ?_⟩
  · unfold rngD at hd
    rw [List.getElem?_map] at hd
    by_cases hi : i < n
    · rw [List.getElem?_range hi] at hd
      cases hd
      exact ⟨hi, fun x H'' ⟨hh, y⟩ => by subst hh y; exact ⟨G', .refl e3, .int _⟩⟩
    · rw [List.getElem?_eq_none (by simpa using hi)] at hd
      exact nomatch hd
  · show n ≤ i
    unfold rngD at hl
    simpa using hl
theorem far_lo {i : Int} (h : far i) : -(2 ^ 62) ≤ i ∧ i < 2 ^ 62 := by obtain ⟨h1, h2⟩ := h; omega
theorem RepL.ints {K : PySem.W.Frag} {G : Hp} : ∀ {ds : List D} {vs : List V}, RepL K G ds vs → ∀ {i : Int}, ds = [.int i] → vs = [.int i]
  | _, _, .cons (.int _) .nil, _, rfl => rfl
theorem RepL.ints2 {K : PySem.W.Frag} {G : Hp} : ∀ {ds : List D} {vs : List V}, RepL K G ds vs → ∀ {i j : Int}, ds = [.int i, .int j] → vs = [.int i, .int j]
  | _, _, .cons (.int _) (.cons (.int _) .nil), _, _, rfl => rfl
theorem gi_rng1 {tg : Expr} {p : Pos} {ms : Env → M (List D)} (hm : X.mg "range" = none) (ha : GA X [e] ms) (hg : Gl X "range" := by rfl) (hs : starEach [e] X.env = [(false, eval e X.env)] := by rfl) : GI X tg (.Call (.Name "range" p) [e] [] pos) (iRng1m ms) :=
  pi_imp (pi_range1 hg hm ha hs) fun σ H R ⟨G0, H0, G, env, P, ok, q, k⟩ => ⟨G0, H0, G, env, _, ok, q, fun ds vs G' H' p r y => by
    split at p
    · have e := y.ints rfl
      exact ⟨_, e, (far_lo p.1).1, (far_lo p.1).2, k _ _ _ _ p.2 r it_r⟩
    · exact p.elim⟩
theorem gi_rng2 {tg c : Expr} {p : Pos} {ms : Env → M (List D)} (hm : X.mg "range" = none) (ha : GA X [e, c] ms) (hg : Gl X "range" := by rfl) (hs : starEach [e, c] X.env = [(false, eval e X.env), (false, eval c X.env)] := by rfl) (hs2 : starEach [c] X.env = [(false, eval c X.env)] := by rfl) : GI X tg (.Call (.Name "range" p) [e, c] [] pos) (iRng2m ms) :=
  pi_imp (pi_range2 hg hm ha hs hs2) fun σ H R ⟨G0, H0, G, env, P, ok, q, k⟩ => ⟨G0, H0, G, env, _, ok, q, fun ds vs G' H' p r y => by
    split at p
    · have e := y.ints2 rfl
      exact ⟨_, _, e, ⟨(far_lo p.1.1).1, (far_lo p.1.1).2, (far_lo p.1.2).1, (far_lo p.1.2).2⟩, k _ _ _ _ p.2 r it_r⟩
    · exact p.elim⟩

/-! ### for -/
def forW (g : GM) (S : SM) : List D → SM
  | [], E, env => E.nx env
  | d :: ds, E, env => g d env fun env' => S { nx := fun e2 => forW g S ds E e2, ct := fun e2 => forW g S ds E e2, bk := E.nx, rt := E.rt } env'
def sFor (it : Env → M (List D)) (g : GM) (S : SM) : SM := fun E env => it env fun ds => forW g S ds E env
/-- the entry's heap with what is frozen by now -/
def uni (H0 G : Hp) : Hp := fun a => match H0 a with | some o => some o | none => G a
theorem uni_none {H0 G : Hp} {a : Addr} (h : uni H0 G a = none) : H0 a = none ∧ G a = none := by
  unfold uni at h
  cases e : H0 a with
  | some o => rw [e] at h; cases h
  | none => rw [e] at h; exact ⟨rfl, h⟩
theorem uni_of {H0 G : Hp} {a : Addr} (h : H0 a = none) (g : G a = none) : uni H0 G a = none := by unfold uni; rw [h]; exact g
theorem uni_l {H0 G : Hp} : Ex H0 (uni H0 G) := fun a o e => by unfold uni; rw [e]
section
variable {K : PySem.W.Frag} {G0 H0 G1 H1 G H : Hp} {σ : L2.St} {env : Env}
theorem Gr.unbase (a : Gr G0 H0 G1 H1) (b : Gr G1 (uni H0 G1) G H) : Gr G0 H0 G H :=
  ⟨a.g.trans b.g, uni_l.trans b.h, b.b, fun x hx gx => b.n x (uni_l.ne hx) (a.n x hx gx)⟩
theorem Ok.rebase (k : Ok K G0 H0 G H σ env) : Ok K G (uni H0 G) G H σ env :=
  ⟨⟨.refl _, fun a o e => by
      unfold uni at e
      cases h : H0 a with
      | some o' => rw [h] at e; cases e; exact k.gr.h a o h
      | none => rw [h] at e; exact k.gr.b a o e, k.gr.b, fun a _ h => h⟩, k.len, fun i s e => by
    have q := k.sl i s e
    generalize σ[i]? = o at q
    cases q with
    | un => exact .un
    | fz h => exact .fz h
    | ow h0 hg h => exact .ow (uni_of h0 hg) hg h, k.dj⟩
theorem Ok.unbase (a : Gr G0 H0 G1 H1) (k : Ok K G1 (uni H0 G1) G H σ env) : Ok K G0 H0 G H σ env :=
  ⟨a.unbase k.gr, k.len, fun i s e => by
    have q := k.sl i s e
    generalize σ[i]? = o at q
    cases q with
    | un => exact .un
    | fz h => exact .fz h
    | ow h0 hg h => exact .ow (uni_none h0).1 hg h, k.dj⟩
end
theorem gs_for {iter : Expr} {body : List Stmt} {tg : Expr} {ts : List Nat} {g : GM} {it : Env → M (List D)} (hp : PassesOwn (model X.prog X.w) X.A X.env X.xe) (hc : X.calm = true) (hi : GI X tg iter it) (hg : GG X tg ts g) (hb : GSs X body S) (hs : ∀ x, foldedSetIterable iter X.env x = pure x := by intro _; rfl) : GS X (.For tg iter body [] pos) (sFor it g S) :=
  ps_imp (ps_for hp hc hi hg hb hs) fun Dn σ H ⟨G0, H0, G, env, E, ok, q, k⟩ => ⟨G0, H0, G, env, _, ok, q, fun ds J G1 H1 p r io => by
    have ok1 := ok.mono r
    refine ⟨fun i m σ H => ∃ G env, Ok X.K G1 (uni H0 G1) G H σ env ∧ forW g S (ds.drop i) E env ∧ m = ds.length - i, ⟨_, G1, env, ok1.rebase, by rw [List.drop_zero]; exact p, rfl⟩, fun i m σ2 H2 ⟨G2, env2, ok2, q2, hm⟩ => ?_⟩
    have e2 := ok2.gr.g
    cases hd : ds[i]? with
    | none =>
      have hl : ds.length ≤ i := List.getElem?_eq_none_iff.mp hd
      rw [List.drop_eq_nil_of_le hl] at q2
      exact .inl ⟨io.stop i G2 H2 hl e2 (e2.trans ok2.gr.b) ok2.gr.b, k.nx _ _ _ _ q2 (ok2.unbase ok1.gr)⟩
    | some d =>
      obtain ⟨hl, hd2⟩ := List.getElem?_eq_some_iff.mp hd
      rw [List.drop_eq_getElem_cons hl, hd2] at q2
      obtain ⟨h1, h2⟩ := io.go i d hd G2 H2 e2 (e2.trans ok2.gr.b) ok2.gr.b
      refine .inr ⟨h1, fun σ' H' => ∃ G env, Ok X.K G1 (uni H0 G1) G H' σ' env ∧ forW g S (ds.drop (i + 1)) E env, fun σ' H' ⟨G', env', o, q⟩ => ⟨_, by omega, G', env', o, q, rfl⟩, fun x H3 y => ?_⟩
      obtain ⟨G3, r3, y3⟩ := h2 x H3 y
      exact ⟨G1, _, G3, env2, d, _, ok2.mono r3, y3, q2, fun env' σ' p' o' _ _ => ⟨G1, _, G3, env', _, o', p', ⟨fun e4 σ4 G4 H4 q4 o4 => ⟨G4, e4, o4, q4⟩, fun d v G H q r y => k.rt d v G H q (ok1.gr.unbase r) y, fun e4 σ4 G4 H4 q4 o4 => k.nx _ _ _ _ q4 (o4.unbase ok1.gr), fun e4 σ4 G4 H4 q4 o4 => ⟨G4, e4, o4, q4⟩⟩⟩⟩⟩
/-! ### while: by a word and a measure -/
def sWhile (t : Env → M Bool) (S : SM) : SM := fun E env => ∃ W : Nat → Env → Prop, (∃ n, W n env) ∧ ∀ n env, W n env → t env fun c => match c with | true => S { nx := fun e => ∃ m, m < n ∧ W m e, ct := fun e => ∃ m, m < n ∧ W m e, bk := E.nx, rt := E.rt } env | false => E.nx env
theorem gs_while {body : List Stmt} (hp : PassesOwn (model X.prog X.w) X.A X.env X.xe) (hc : GT X c tc) (hb : GSs X body S) : GS X (.While c body [] pos) (sWhile tc S) :=
  ps_imp (ps_while hp hc hb) fun Dn σ H ⟨G0, H0, G, env, E, ok, ⟨W, ⟨n, w0⟩, hw⟩, k⟩ => by
    refine ⟨fun m σ H => ∃ G env, Ok X.K G0 H0 G H σ env ∧ W m env, ⟨n, G, env, ok, w0⟩, fun m σ2 H2 ⟨G2, env2, ok2, w2⟩ => ⟨G0, H0, G2, env2, _, ok2, hw m env2 w2, fun c G3 H3 p r => ?_⟩⟩
    cases c with
    | false => exact k.nx _ _ _ _ p (ok2.mono r)
    | true => exact ⟨fun σ' H' => ∃ m', m' < m ∧ ∃ G env, Ok X.K G0 H0 G H' σ' env ∧ W m' env, fun σ' H' h => h, G0, H0, G3, env2, _, ok2.mono r, p, ⟨fun e σ G H ⟨m', l, w⟩ o => ⟨m', l, G, e, o, w⟩, k.rt, k.nx, fun e σ G H ⟨m', l, w⟩ o => ⟨m', l, G, e, o, w⟩⟩⟩

/-! ### comprehensions -/
def wipeE (env : Env) : List Nat → Env
  | [] => env
  | v :: vs => setS (wipeE env vs) v .un
theorem Ok.wipe {K : PySem.W.Frag} {G0 H0 G H : Hp} {σ : L2.St} {env : Env} (k : Ok K G0 H0 G H σ env) : ∀ vs : List Nat, Ok K G0 H0 G H (wipe σ vs) (wipeE env vs)
  | [] => k
  | v :: vs => (k.wipe vs).drop v
theorem wipe_at {σ : L2.St} : ∀ {vs : List Nat} {i : Nat}, i ∈ vs → i < σ.length → (wipe σ vs)[i]? = some none
  | v :: vs, i, h, hl => by
    unfold L2.wipe
    by_cases e : v = i
    · subst e; rw [List.getElem?_set_self (by rw [wipe_length]; exact hl)]
    · rw [List.getElem?_set_ne e]
      exact wipe_at ((List.mem_cons.mp h).resolve_left (Ne.symm e)) hl
theorem wipe_same {σ σ2 : L2.St} {vs : List Nat} (hl : σ2.length = σ.length) (h : ∀ j, j ∉ vs → σ2[j]? = σ[j]?) : wipe σ2 vs = wipe σ vs := by
  apply List.ext_getElem?
  intro i
  by_cases hi : i ∈ vs
  · by_cases hb : i < σ.length
    · rw [wipe_at hi (by omega), wipe_at hi hb]
    · rw [List.getElem?_eq_none (by rw [wipe_length]; omega), List.getElem?_eq_none (by rw [wipe_length]; omega)]
  · rw [wipe_out hi, wipe_out hi, h i hi]
/-- [m for g in ds if t], each turn from env -/
def lcW (g : GM) (t : Env → M Bool) (m : EM) (env : Env) : List D → M (List D)
  | [], P => P []
  | d :: ds, P => g d env fun env2 => t env2 fun c => match c with | true => m env2 fun y => lcW g t m env ds fun ys => P (y :: ys) | false => lcW g t m env ds P
def eLC (vs : List Nat) (it : Env → M (List D)) (g : GM) (t : Env → M Bool) (m : EM) : EM := fun env P => it env fun ds => ds.length ≤ lim ∧ lcW g t m (wipeE env vs) ds fun ys => P (.lst ys)
def tTrue : Env → M Bool := fun _ P => P true
abbrev GTs (X : Cx) (ifs : List Expr) (t : Env → M Bool) : Prop := PTs X ifs (tGT X.K t)
theorem gts_nil : GTs X [] tTrue := ⟨fun pins s σ H Q I ⟨G0, H0, G, env, P, ok, q, k⟩ => pts_nil.run pins s σ H Q I (k true G H q (.refl ok.gr.b))⟩
theorem gts_one (h : GT X c tc) : GTs X [c] tc := pts_one h
theorem lc_sound {K : PySem.W.Frag} {vs ts : List Nat} {it : Env → M (List D)} {g : GM} {t : Env → M Bool} (hts : ∀ j ∈ ts, j ∈ vs) : ∀ σ H Q, tF K (eLC vs it g t m) σ H Q → tLc (tBI K it) (tGG K ts g) (tGT K t) (tG K m) vs σ H Q :=
  fun σ H Q ⟨G0, H0, G, env, P, ok, q, k⟩ => ⟨G0, H0, G, env, _, ok, q, fun ds J G1 H1 ⟨hl, p⟩ r io A hA => by
    refine ⟨fun i mm H2 => ∃ G2 acc us, Gr G1 H1 G2 H2 ∧ G2 A = none ∧ H2 A = some (.lst us) ∧ RepL K G2 acc us ∧ acc.length ≤ i ∧ lcW g t m (wipeE env vs) (ds.drop i) (fun ys => P (.lst (acc ++ ys))) ∧ mm = ds.length - i,
      ⟨_, G1, [], [], .newO r.b hA, r.b.fresh hA, upd_same, .nil, Nat.zero_le _, by rw [List.drop_zero]; exact p, rfl⟩, fun i mm H2 ⟨G2, acc, us, r2, g2, h2, rl, hi, q2, hm⟩ => ?_⟩
    cases hd : ds[i]? with
    | none =>
      have hl2 : ds.length ≤ i := List.getElem?_eq_none_iff.mp hd
      rw [List.drop_eq_nil_of_le hl2] at q2
      refine .inl ⟨io.stop i G2 H2 hl2 r2.g r2.h r2.b, ?_⟩
      have := k _ A G2 H2 q2 (r.trans r2) (r.h.fresh hA) g2 (.lst h2 (by rw [List.append_nil]; exact rl))
      exact this
    | some d =>
      obtain ⟨hl2, hd2⟩ := List.getElem?_eq_some_iff.mp hd
      rw [List.drop_eq_getElem_cons hl2, hd2] at q2
      obtain ⟨j1, j2⟩ := io.go i d hd G2 H2 r2.g r2.h r2.b
      refine .inr ⟨j1, fun H' => ∃ G2 acc us, Gr G1 H1 G2 H' ∧ G2 A = none ∧ H' A = some (.lst us) ∧ RepL K G2 acc us ∧ acc.length ≤ i + 1 ∧ lcW g t m (wipeE env vs) (ds.drop (i + 1)) (fun ys => P (.lst (acc ++ ys))),
        fun H' ⟨G', acc', us', a, b, c, d', e, f⟩ => ⟨_, by omega, G', acc', us', a, b, c, d', e, f, rfl⟩, fun x H3 y => ?_⟩
      obtain ⟨G3, r3, y3⟩ := j2 x H3 y
      have r23 := r2.trans r3
      have okw := ((ok.mono r).mono r23).wipe vs
      refine ⟨G0, H0, G3, _, d, _, okw, y3, q2, fun env' σ' p' o' hl3 hj3 => ⟨?_, G0, H0, G3, env', _, o', p', fun c G4 H4 p4 r4 => ?_⟩⟩
      · exact (wipe_same (vs := vs) hl3 fun j hj => hj3 j fun z => hj (hts j z)).trans (by
          apply wipe_same (by rw [wipe_length]) fun j hj => wipe_out hj)
      · have A4 : H3 A ≠ none := by rw [r3.h _ _ h2]; exact fun z => nomatch z
        have A5 : G3 A = none := r3.n A (by rw [h2]; exact fun z => nomatch z) g2
        have A6 : G4 A = none := r4.n A A4 A5
        have A7 : H4 A = some (.lst us) := r4.h _ _ (r3.h _ _ h2)
        cases c with
        | false => exact ⟨G4, acc, us, r23.trans r4, A6, A7, (rl.mono r3.g).mono r4.g, by omega, p4⟩
        | true =>
          refine ⟨G0, H0, G4, env', _, o'.mono r4, p4, fun z w G5 H5 p5 r5 y5 => ?_⟩
          have A8 : G5 A = none := r5.n A (by rw [A7]; exact fun z => nomatch z) A6
          have A9 : H5 A = some (.lst us) := r5.h _ _ A7
          refine ⟨us, A9, ?_, G5, acc ++ [z], us ++ [w], ?_, A8, upd_same, (((rl.mono r3.g).mono r4.g).mono r5.g).app (.one y5), by rw [List.length_append]; show acc.length + 1 ≤ i + 1; omega, ?_⟩
          · rw [← rl.len]
            have : lim < sizeLine := by decide
            omega
          · have rr := (r23.trans r4).trans r5
            refine ⟨rr.g, fun a o e => ?_, fun a o e => ?_, rr.n⟩
            · rw [upd_ne (ne_of_none e hA)]; exact rr.h a o e
            · rw [upd_ne (ne_of_none e A8)]; exact rr.b a o e
          · have e : (fun ys => P (.lst (acc ++ [z] ++ ys))) = fun ys => P (.lst (acc ++ z :: ys)) := by funext ys; rw [List.append_assoc]; rfl
            rw [e]; exact p5⟩
theorem fe_lc {elt iter tg : Expr} {ifs : List Expr} {scope : Scope} {own : List (Str × Nat)} {it : Env → M (List D)} {ts : List Nat} {g : GM} {t : Env → M Bool} (hc : X.calm = true) (hN : X.N.Nodup) (hi : BI X tg iter it) (ok : BlkOk X.N X.env.scope scope own) (hts : ∀ j ∈ ts, j ∈ own.map (·.2))
    (hg : ∀ (s : Shared) (H : Hp) (C : Addr) (cl : List (Str × Addr)) (fp : List Addr), GG (X.blk s H scope (compEnvC scope cl C X.env) fp) tg ts g) (ht : ∀ (s : Shared) (H : Hp) (C : Addr) (cl : List (Str × Addr)) (fp : List Addr), GTs (X.blk s H scope (compEnvC scope cl C X.env) fp) ifs t)
    (he : ∀ (s : Shared) (H : Hp) (C : Addr) (cl : List (Str × Addr)) (fp : List Addr), GE (X.blk s H scope (compEnvC scope cl C X.env) fp) elt m) (hs : ∀ x, foldedSetIterable iter X.env x = pure x := by intro _; rfl) : FE X (.ListComp elt [⟨tg, iter, ifs, 0⟩] scope pos) (eLC (own.map (·.2)) it g t m) :=
  pe_imp (pe_lc hc hN hi ok hg ht he hs) (lc_sound hts)
/-- name = [..], the name a local -/
theorem gs_lc (i : Nat) {y : Str} {py : Pos} {elt iter tg : Expr} {ifs : List Expr} {scope : Scope} {own : List (Str × Nat)} {spos : Pos} {it : Env → M (List D)} {ts : List Nat} {g : GM} {t : Env → M Bool} (hc : X.calm = true) (hN : X.N.Nodup) (hi : BI X tg iter it) (ok : BlkOk X.N X.env.scope scope own) (hts : ∀ j ∈ ts, j ∈ own.map (·.2))
    (hg : ∀ (s : Shared) (H : Hp) (C : Addr) (cl : List (Str × Addr)) (fp : List Addr), GG (X.blk s H scope (compEnvC scope cl C X.env) fp) tg ts g) (ht : ∀ (s : Shared) (H : Hp) (C : Addr) (cl : List (Str × Addr)) (fp : List Addr), GTs (X.blk s H scope (compEnvC scope cl C X.env) fp) ifs t)
    (he : ∀ (s : Shared) (H : Hp) (C : Addr) (cl : List (Str × Addr)) (fp : List Addr), GE (X.blk s H scope (compEnvC scope cl C X.env) fp) elt m)
    (hsw : swapsWith (.ListComp elt [⟨tg, iter, ifs, 0⟩] scope pos) (some (.Name y py)) spos.line X.env = pure true) (hy : X.N[i]? = some y := by rfl) (hyl : X.env.scope.names.lookup y = some .local := by rfl) (hs : ∀ x, foldedSetIterable iter X.env x = pure x := by intro _; rfl) :
    GS X (.Assign [.Name y py] (.ListComp elt [⟨tg, iter, ifs, 0⟩] scope pos) spos) (sSetO i (eLC (own.map (·.2)) it g t m)) :=
  ps_imp (ps_setLc hc hN hy hyl hsw hi ok hg ht he hs) fun Dn σ H ⟨G0, H0, G, env, E, ok, q, k⟩ => lc_sound hts σ H _ ⟨G0, H0, G, env, _, ok, q, fun d a G' H' p r h1 h2 h3 => k.nx _ _ _ _ p (ok.setN r h1 h2 h3)⟩
end
end G
set_option Elab.async false
set_option linter.all false
set_option maxRecDepth 100000
namespace G
open PySem PySem.Spec PyProof.Rows L2

section
variable {X : Cx}
theorem RepBL.one_inv {K : PySem.W.Frag} {G H : Hp} {d : D} {vs : List V} (h : RepBL K G H [d] vs) : ∃ v, vs = [v] ∧ RepB K G H d v := by
  cases h with | cons h r => cases r; exact ⟨_, rfl, h⟩
theorem RepBL.two_inv {K : PySem.W.Frag} {G H : Hp} {d e : D} {vs : List V} (h : RepBL K G H [d, e] vs) : ∃ v w, vs = [v, w] ∧ RepB K G H d v ∧ RepB K G H e w := by
  cases h with | cons h r => obtain ⟨w, rfl, h2⟩ := r.one_inv; exact ⟨_, _, rfl, h, h2⟩
/-! ### len -/
def dLen : List D → M D
  | [.lst ds] => ret (.int ds.length)
  | [.tup ds] => ret (.int ds.length)
  | [.kt ds] => ret (.int ds.length)
  | [.str s] => ask (s.length ≤ lim) (ret (.int s.length))
  | [.scr s] => ret (.int s.length)
  | _ => stuck
theorem c_len : CallR X (.builtin "len") (rGC X.K dLen) := by
  intro pins s σ H vs us Q I rv ⟨G, ds, P, b, hd, hf, k⟩
  unfold dLen at hf
  split at hf
  · obtain ⟨v, rfl, h⟩ := hd.one_inv
    obtain ⟨a, xs, rfl, h1, h2⟩ := h.lst_inv b
    refine call_len pins s σ H _ us Q I rv ⟨_, _, rfl, .inl ⟨xs, .of h1, rfl⟩, ?_⟩
    rw [← h2.len]
    exact k _ _ _ _ hf (.refl b) (.int _)
  · obtain ⟨v, rfl, h⟩ := hd.one_inv
    obtain ⟨a, xs, rfl, h1, h2⟩ := h.tup_inv b
    refine call_len pins s σ H _ us Q I rv ⟨_, _, rfl, .inr ⟨xs, h1, rfl⟩, ?_⟩
    rw [← h2.len]
    exact k _ _ _ _ hf (.refl b) (.int _)
  · obtain ⟨v, rfl, h⟩ := hd.one_inv
    obtain ⟨a, xs, rfl, h1, h2⟩ := h.kt_inv
    refine call_len pins s σ H _ us Q I rv ⟨_, _, rfl, .inr ⟨xs, h1, rfl⟩, ?_⟩
    rw [← h2.len]
    exact k _ _ _ _ hf (.refl b) (.int _)
  · obtain ⟨v, rfl, h⟩ := hd.one_inv
    obtain ⟨rfl, ho⟩ := h.str_inv
    obtain ⟨hl, hf⟩ := hf
    rename_i sx
    have e : Str.length ⟨sx.toArray⟩ = sx.length := by simp [Str.length]
    refine call_len pins s σ H _ us Q I rv ⟨_, sx.length, rfl, ⟨by rw [e]; exact lim_le hl, e.symm⟩, ?_⟩
    exact k _ _ _ _ hf (.refl b) (.int _)
  · obtain ⟨v, rfl, h⟩ := hd.one_inv
    obtain ⟨a, rfl, h1⟩ := h.scr_inv b
    refine call_len pins s σ H _ us Q I rv ⟨_, _, rfl, .inl ⟨_, h1, rfl⟩, ?_⟩
    rw [List.length_map]
    exact k _ _ _ _ hf (.refl b) (.int _)
  · exact hf.elim
/-! ### isinstance -/
def tyD : D → Option String
  | .non => some "NoneType"
  | .bl _ => some "bool"
  | .int _ => some "int"
  | .str _ => some "str"
  | .lst _ => some "list"
  | .tup _ => some "tuple"
  | .kt _ => some "tuple"
  | .dK _ => some "dict"
  | .dT _ => some "dict"
  | _ => none
/-- the classes that are asked for -/
def isiT : String → String → Option Bool
  | "NoneType", "int" => some false | "NoneType", "bool" => some false | "NoneType", "str" => some false | "NoneType", "tuple" => some false | "NoneType", "list" => some false
  | "bool", "int" => some true | "bool", "bool" => some true | "bool", "str" => some false | "bool", "tuple" => some false | "bool", "list" => some false
  | "int", "int" => some true | "int", "bool" => some false | "int", "str" => some false | "int", "tuple" => some false | "int", "list" => some false
  | "str", "int" => some false | "str", "bool" => some false | "str", "str" => some true | "str", "tuple" => some false | "str", "list" => some false
  | "list", "int" => some false | "list", "bool" => some false | "list", "str" => some false | "list", "tuple" => some false | "list", "list" => some true
  | "tuple", "int" => some false | "tuple", "bool" => some false | "tuple", "str" => some false | "tuple", "tuple" => some true | "tuple", "list" => some false
  | "dict", "int" => some false | "dict", "bool" => some false | "dict", "str" => some false | "dict", "tuple" => some false | "dict", "list" => some false
  | _, _ => none
theorem isiT_kit {a b : String} {r : Bool} (h : isiT a b = some r) : kitB a b = some r := by
  revert h
  unfold isiT
  split <;> intro h <;> first | (cases h; decide +kernel) | cases h
theorem RepB.tyX {K : PySem.W.Frag} {G H : Hp} (b : Ex G H) {d : D} {v : V} {n : String} (h : RepB K G H d v) (hn : tyD d = some n) : TyX K H v (.type n) := by
  cases h with
  | lst h r => cases hn; exact .base (.lst h)
  | dK h r => cases hn; exact .base (.dK h)
  | dT h r => cases hn; exact .base (.dT h)
  | rep h =>
    cases h with
    | non => cases hn; exact .base .non
    | bl x => cases hn; exact .base (.bl x)
    | int i => cases hn; exact .base (.int i)
    | str s h => cases hn; exact .base (.str _)
    | tup h r =>
      cases hn
      exact .base (.tup (b _ _ h))
    | kt h r =>
      cases hn
      rcases h with (h | ⟨o, h⟩) | ⟨o, its, n, h1, h2, _⟩
      · exact nomatch h
      · exact nomatch h
      · exact .kTuple h1 h2
    | lst h r => cases hn; exact .base (.lst (b _ _ h))
    | dK h r => cases hn; exact .base (.dK (b _ _ h))
    | dT h r => cases hn; exact .base (.dT (b _ _ h))
    | _ => cases hn
def isiD (d : D) (T : String) : Option Bool := match tyD d with | some n => isiT n T | none => none
def dIsi : List D → M D
  | [d, .ty T] => fun P => match isiD d T with | some r => P (.bl r) | none => False
  | _ => stuck
theorem c_isi : CallR X (.builtin "isinstance") (rGC X.K dIsi) := by
  intro pins s σ H vs us Q I rv ⟨G, ds, P, b, hd, hf, k⟩
  unfold dIsi at hf
  split at hf
  · obtain ⟨v, w, rfl, h1, h2⟩ := hd.two_inv
    cases h2.ty_inv
    split at hf
    · rename_i r hr
      unfold isiD at hr
      split at hr
      · rename_i n hn
        exact call_isi pins s σ H _ us Q I rv ⟨v, _, _, _, r, rfl, .ty _, h1.tyX b hn, kit_ty (isiT_kit hr), k _ _ _ _ hf (.refl b) (.bl _)⟩
      · cases hr
    · exact hf.elim
  · exact hf.elim
/-! ### int, abs, str -/
def dInt : List D → M D
  | [.int i] => ret (.int i)
  | [.bl b] => ret (.int (if b then 1 else 0))
  | _ => stuck
theorem c_int : CallR X (.type "int") (rGC X.K dInt) := by
  intro pins s σ H vs us Q I rv ⟨G, ds, P, b, hd, hf, k⟩
  unfold dInt at hf
  split at hf
  · obtain ⟨v, rfl, h⟩ := hd.one_inv
    cases h.int_inv
    exact call_int1 pins s σ H _ us Q I rv (.inl ⟨_, rfl, k _ _ _ _ hf (.refl b) (.int _)⟩)
  · obtain ⟨v, rfl, h⟩ := hd.one_inv
    cases h.bl_inv
    exact call_int1 pins s σ H _ us Q I rv (.inr ⟨_, rfl, k _ _ _ _ hf (.refl b) (.int _)⟩)
  · exact hf.elim
def dAbs : List D → M D
  | [.int i] => ret (.int (if i < 0 then -i else i))
  | _ => stuck
theorem c_abs : CallR X (.builtin "abs") (rGC X.K dAbs) := by
  intro pins s σ H vs us Q I rv ⟨G, ds, P, b, hd, hf, k⟩
  unfold dAbs at hf
  split at hf
  · obtain ⟨v, rfl, h⟩ := hd.one_inv
    cases h.int_inv
    exact call_abs pins s σ H _ us Q I rv ⟨_, rfl, k _ _ _ _ hf (.refl b) (.int _)⟩
  · exact hf.elim
/-- an int in tens -/
def strI (i : Int) : List Nat := (toString i : Str).cps.toList
def dStr : List D → M D
  | [.str s] => ret (.str s)
  | [.int i] => ask (i.natAbs < 2 ^ 1000 ∧ sOk (strI i) = true) (ret (.str (strI i)))
  | _ => stuck
theorem c_str : CallR X (.type "str") (rGC X.K dStr) := by
  intro pins s σ H vs us Q I rv ⟨G, ds, P, b, hd, hf, k⟩
  unfold dStr at hf
  split at hf
  · obtain ⟨v, rfl, h⟩ := hd.one_inv
    obtain ⟨rfl, ho⟩ := h.str_inv
    exact SkE.call_str_str pins s σ H _ us Q I rv ⟨_, rfl, k _ _ _ _ hf (.refl b) (.str _ ho)⟩
  · obtain ⟨v, rfl, h⟩ := hd.one_inv
    cases h.int_inv
    rename_i i
    obtain ⟨⟨hl, ho⟩, hf⟩ := hf
    refine call_str_int pins s σ H _ us Q I rv ⟨_, rfl, ?_, ?_⟩
    · rcases Nat.eq_zero_or_pos i.natAbs with z | z
      · rw [z]; decide
      · exact Nat.lt_trans ((Nat.log2_lt (by omega)).mpr hl) (by decide)
    · have := k _ _ _ _ hf (.refl b) (.str _ ho)
      unfold strI at this
      simpa using this
  · exact hf.elim
/-! ### list, tuple -/
def dTuple : List D → M D
  | [.lst ds] => ret (.tup ds)
  | [.tup ds] => ret (.tup ds)
  | _ => stuck
theorem c_tuple : CallR X (.type "tuple") (rGC X.K dTuple) := by
  intro pins s σ H vs us Q I rv ⟨G, ds, P, b, hd, hf, k⟩
  unfold dTuple at hf
  split at hf
  · obtain ⟨v, rfl, h⟩ := hd.one_inv
    obtain ⟨a, xs, rfl, h1, h2⟩ := h.lst_inv b
    exact call_tuple_of pins s σ H _ us Q I rv ⟨a, xs, rfl, .inl ⟨.of h1, fun l hl => k _ _ _ _ hf (.new b hl) (.tup upd_same (h2.mono (.new (b.fresh hl))))⟩⟩
  · obtain ⟨v, rfl, h⟩ := hd.one_inv
    obtain ⟨a, xs, rfl, h1, h2⟩ := h.tup_inv b
    cases h with
    | rep hr => exact call_tuple_of pins s σ H _ us Q I rv ⟨a, xs, rfl, .inr ⟨h1, k _ _ _ _ hf (.refl b) hr⟩⟩
  · exact hf.elim
def dList : List D → M D
  | [.lst ds] => ret (.lst ds)
  | [.tup ds] => ret (.lst ds)
  | [.scr ns] => ret (.lst (ns.map .int))
  | [.str s] => ask (s.length ≤ lim) (ret (.lst (signsD s)))
  | _ => stuck
theorem RepL.ints_map {K : PySem.W.Frag} {G : Hp} : ∀ ns : List Int, RepL K G (ns.map .int) (ns.map V.int)
  | [] => .nil
  | _ :: r => .cons (.int _) (RepL.ints_map r)
theorem RepL.signs {K : PySem.W.Frag} {G : Hp} : ∀ {s : List Nat}, sOk s = true → RepL K G (signsD s) (s.map fun c => V.str ⟨#[c]⟩)
  | [], _ => .nil
  | c :: r, h => .cons (.str [c] (sOk_one h (by simp))) (RepL.signs (by unfold sOk at h ⊢; rw [List.all_cons, Bool.and_eq_true] at h; exact h.2))
theorem c_list (hc : X.calm = true) : CallR X (.type "list") (rFC X.K dList) := by
  intro pins s σ H vs us Q I rv ⟨G, ds, P, b, hd, hf, k⟩
  unfold dList at hf
  split at hf
  · obtain ⟨v, rfl, h⟩ := hd.one_inv
    obtain ⟨a, xs, rfl, h1, h2⟩ := h.lst_inv b
    exact call_list_of pins s σ H _ us Q I rv ⟨a, xs, rfl, .inl (.of h1), fun l hl => k _ l G _ hf (.newO b hl) hl (b.fresh hl) (.lst upd_same h2)⟩
  · obtain ⟨v, rfl, h⟩ := hd.one_inv
    obtain ⟨a, xs, rfl, h1, h2⟩ := h.tup_inv b
    exact call_list_of pins s σ H _ us Q I rv ⟨a, xs, rfl, .inr h1, fun l hl => k _ l G _ hf (.newO b hl) hl (b.fresh hl) (.lst upd_same h2)⟩
  · obtain ⟨v, rfl, h⟩ := hd.one_inv
    obtain ⟨a, rfl, h1⟩ := h.scr_inv b
    exact call_list_of pins s σ H _ us Q I rv ⟨a, _, rfl, .inl h1, fun l hl => k _ l G _ hf (.newO b hl) hl (b.fresh hl) (.lst upd_same (RepL.ints_map _))⟩
  · obtain ⟨v, rfl, h⟩ := hd.one_inv
    obtain ⟨rfl, ho⟩ := h.str_inv
    obtain ⟨hl, hf⟩ := hf
    rename_i sx
    cases rv with
    | cons r1 r2 =>
      cases r2
      obtain ⟨t, rfl⟩ := r1
      refine PySem.call_list_str (I.ok.hd hc) ⟨sx.toArray⟩ t (fun h' tk acc c' hk hS hA => ?_) (by simpa using lim_le hl)
      have rl : Vals (sx.map fun c => V.str ⟨#[c]⟩) acc.toList := by
        have key : ∀ (l : List Value) (m : List Nat), l.length = m.length → (∀ (j : Nat) (v : Value), l[j]? = some v → ∃ (c : Nat) (u : Tok), m[j]? = some c ∧ v = Value.str ⟨#[c]⟩ u) → Vals (m.map fun c => V.str ⟨#[c]⟩) l := by
          intro l
          induction l with
          | nil => intro m hm _; cases m with
            | nil => exact .nil
            | cons _ _ => cases hm
          | cons v l ih => intro m hm hv; cases m with
            | nil => cases hm
            | cons c m =>
              obtain ⟨c', u, e1, e2⟩ := hv 0 v rfl
              cases e1
              exact .cons ⟨u, e2⟩ (ih m (Nat.succ.inj hm) fun j w hj => by
                obtain ⟨c2, u2, e3, e4⟩ := hv (j + 1) w (by simpa using hj)
                exact ⟨c2, u2, by simpa using e3, e4⟩)
        refine key _ _ (by have := hA.1; simpa using this) fun j v hv => ?_
        obtain ⟨c, u, e1, e2⟩ := hA.2 j v (by simpa using hv)
        exact ⟨c, u, by simpa using e1, e2⟩
      have In : Inv X pins σ (upd H s.heap.objs.size (.lst (sx.map fun c => V.str ⟨#[c]⟩))) { s with heap := h', toks := tk } :=
        I.laid (fun c o e => hk c o e) (Nat.le_refl _) ⟨by rw [List.length_map]; exact lim_le hl, acc.toList, c', rl, by simpa using hS⟩
      exact ⟨.ref _, _, In, rfl, k _ _ G _ hf (.newO b I.fresh) I.fresh (b.fresh I.fresh) (.lst upd_same (RepL.signs ho))⟩
  · exact hf.elim
/-! ### all, any, sum -/
def boolsD : List D → Option (List Bool)
  | [] => some []
  | .bl b :: r => (boolsD r).map (b :: ·)
  | _ :: _ => none
def intsD : List D → Option (List Int)
  | [] => some []
  | .int b :: r => (intsD r).map (b :: ·)
  | _ :: _ => none
theorem RepL.bools {K : PySem.W.Frag} {G : Hp} : ∀ {ds : List D} {vs : List V} {bs : List Bool}, RepL K G ds vs → boolsD ds = some bs → vs = bs.map V.bl
  | _, _, _, .nil, h => by cases h; rfl
  | _, _, _, .cons (.bl b) r, h => by
    rw [boolsD] at h
    obtain ⟨bs, h1, rfl⟩ := Option.map_eq_some_iff.mp h
    rw [r.bools h1]; rfl
  | _, _, _, .cons .non r, h => by cases h
  | _, _, _, .cons (.int _) r, h => by cases h
  | _, _, _, .cons (.str _ _) r, h => by cases h
  | _, _, _, .cons (.tup _ _) r, h => by cases h
  | _, _, _, .cons (.lst _ _) r, h => by cases h
  | _, _, _, .cons (.kt _ _) r, h => by cases h
  | _, _, _, .cons (.scr _) r, h => by cases h
  | _, _, _, .cons (.dK _ _) r, h => by cases h
  | _, _, _, .cons (.dT _ _) r, h => by cases h
  | _, _, _, .cons (.cup _) r, h => by cases h
  | _, _, _, .cons (.ty _) r, h => by cases h
  | _, _, _, .cons (.any _) r, h => by cases h
theorem RepL.intl {K : PySem.W.Frag} {G : Hp} : ∀ {ds : List D} {vs : List V} {bs : List Int}, RepL K G ds vs → intsD ds = some bs → vs = bs.map V.int
  | _, _, _, .nil, h => by cases h; rfl
  | _, _, _, .cons (.int b) r, h => by
    rw [intsD] at h
    obtain ⟨bs, h1, rfl⟩ := Option.map_eq_some_iff.mp h
    rw [r.intl h1]; rfl
  | _, _, _, .cons .non r, h => by cases h
  | _, _, _, .cons (.bl _) r, h => by cases h
  | _, _, _, .cons (.str _ _) r, h => by cases h
  | _, _, _, .cons (.tup _ _) r, h => by cases h
  | _, _, _, .cons (.lst _ _) r, h => by cases h
  | _, _, _, .cons (.kt _ _) r, h => by cases h
  | _, _, _, .cons (.scr _) r, h => by cases h
  | _, _, _, .cons (.dK _ _) r, h => by cases h
  | _, _, _, .cons (.dT _ _) r, h => by cases h
  | _, _, _, .cons (.cup _) r, h => by cases h
  | _, _, _, .cons (.ty _) r, h => by cases h
  | _, _, _, .cons (.any _) r, h => by cases h
def dAll : List D → M D
  | [.lst ds] => fun P => match boolsD ds with | some bs => P (.bl (bs.all id)) | none => False
  | _ => stuck
def dAny : List D → M D
  | [.lst ds] => fun P => match boolsD ds with | some bs => P (.bl (bs.any id)) | none => False
  | _ => stuck
def dSum : List D → M D
  | [.lst ds] => fun P => match intsD ds with | some bs => P (.int bs.sum) | none => False
  | _ => stuck
theorem c_all (hc : X.calm = true) : CallR X (.builtin "all") (rGC X.K dAll) := by
  intro pins s σ H vs us Q I rv ⟨G, ds, P, b, hd, hf, k⟩
  unfold dAll at hf
  split at hf
  · obtain ⟨v, rfl, h⟩ := hd.one_inv
    obtain ⟨a, xs, rfl, h1, h2⟩ := h.lst_inv b
    split at hf
    · rename_i bs hb
      have e := h2.bools hb
      subst e
      exact cr_all hc pins s σ H _ us Q I rv ⟨a, bs, rfl, .of h1, k _ _ _ _ hf (.refl b) (.bl _)⟩
    · exact hf.elim
  · exact hf.elim
theorem c_any (hc : X.calm = true) : CallR X (.builtin "any") (rGC X.K dAny) := by
  intro pins s σ H vs us Q I rv ⟨G, ds, P, b, hd, hf, k⟩
  unfold dAny at hf
  split at hf
  · obtain ⟨v, rfl, h⟩ := hd.one_inv
    obtain ⟨a, xs, rfl, h1, h2⟩ := h.lst_inv b
    split at hf
    · rename_i bs hb
      have e := h2.bools hb
      subst e
      exact cr_any hc pins s σ H _ us Q I rv ⟨a, bs, rfl, .of h1, k _ _ _ _ hf (.refl b) (.bl _)⟩
    · exact hf.elim
  · exact hf.elim
theorem c_sum (hc : X.calm = true) : CallR X (.builtin "sum") (rGC X.K dSum) := by
  intro pins s σ H vs us Q I rv ⟨G, ds, P, b, hd, hf, k⟩
  unfold dSum at hf
  split at hf
  · obtain ⟨v, rfl, h⟩ := hd.one_inv
    obtain ⟨a, xs, rfl, h1, h2⟩ := h.lst_inv b
    split at hf
    · rename_i bs hb
      have e := h2.intl hb
      subst e
      exact cr_sum hc pins s σ H _ us Q I rv ⟨a, bs, rfl, .of h1, k _ _ _ _ hf (.refl b) (.int _)⟩
    · exact hf.elim
  · exact hf.elim
/-! ### methods of values -/
def hasT (T : String) : D → Prop
  | .str _ => T = "str"
  | .lst _ => T = "list"
  | .dK _ => T = "dict"
  | .dT _ => T = "dict"
  | _ => False
theorem hasT_ty {K : PySem.W.Frag} {G H : Hp} (b : Ex G H) {T : String} {d : D} {v : V} (h : RepB K G H d v) (t : hasT T d) : tyV K T v H := by
  cases d with
  | str s => obtain ⟨rfl, _⟩ := h.str_inv; exact t
  | lst ds => obtain ⟨a, xs, rfl, h1, _⟩ := h.lst_inv b; exact .inl ⟨t, _, .of h1⟩
  | dK ds => obtain ⟨a, xs, rfl, h1, _⟩ := h.dK_inv b; exact .inr (.inr (.inl ⟨t, .inl ⟨_, h1⟩⟩))
  | dT ds => obtain ⟨a, xs, rfl, h1, _⟩ := h.dT_inv b; exact .inr (.inr (.inl ⟨t, .inr ⟨_, h1⟩⟩))
  | _ => exact t.elim
def eMeth (T : String) (f : D → List D → M D) (o : EM) (ms : Env → M (List D)) : EM := fun env P => o env fun d => hasT T d ∧ ms env fun ds => f d ds P
def rGM (K : PySem.W.Frag) (f : D → List D → M D) : V → List V → Hp → VK → Prop := fun x vs H Q => ∃ G d ds P, Ex G H ∧ RepB K G H d x ∧ RepBL K G H ds vs ∧ f d ds P ∧ ∀ r v G' H', P r → Gr G H G' H' → Rep K G' r v → Q v H'
def rFM (K : PySem.W.Frag) (f : D → List D → M D) : V → List V → Hp → VK → Prop := fun x vs H Q => ∃ G d ds P, Ex G H ∧ RepB K G H d x ∧ RepBL K G H ds vs ∧ f d ds P ∧ ∀ r a G' H', P r → Gr G H G' H' → H a = none → G' a = none → Own K G' H' a r → Q (.ref a) H'
theorem ge_bm {T id : String} {name : Str} {apos cpos : Pos} {o e : Expr} {es : List Expr} {f : D → List D → M D} {m : EM} {ms : Env → M (List D)} (pa : PlainAttrs T) (slot : Slot T name id) (hty : typeOf (.builtin id) = pure (.type "method_descriptor")) (hm : MtR X id (rGM X.K f)) (ho : BE X o m) (ha : BA X (e :: es) ms)
    (hbase : attributeBase o name X.env (eval o X.env) = eval o X.env := by rfl)
    (hfew : ((backTo cpos (starEach (e :: es) X.env)).all (fun x => !x.1) && (backToKw cpos (keywordEach [] X.env)).all (fun x => x.1.isSome) && decide ((e :: es).length + ([] : List Keyword).length + (if ([] : List Keyword).isEmpty then 0 else 1) < 30)) = true := by rfl)
    (hline : (apos.endLine == cpos.line) = true := by rfl) (hs : starEach (e :: es) X.env = (false, eval e X.env) :: starEach es X.env := by rfl) (hpl : (backTo cpos (starEach es X.env)).any (·.1) = false := by rfl) :
    GE X (.Call (.Attribute o name apos) (e :: es) [] cpos) (eMeth T f m ms) := pe_imp (pe_bm pa slot hty hm ho ha hbase hfew hline hs hpl) fun σ H Q ⟨G0, H0, G, env, P, ok, hm, k⟩ =>
  ⟨G0, H0, G, env, _, ok, hm, fun d v G1 H1 ⟨ht, p⟩ r1 b1 => ⟨hasT_ty r1.b b1 ht, G0, H0, G1, env, _, ok.mono r1, p, fun ds vs G2 H2 p2 r2 b2 => ⟨G2, d, ds, P, r2.b, b1.mono r2, b2, p2, fun r v G3 H3 p3 r3 y => k r v G3 H3 p3 ((r1.trans r2).trans r3) y⟩⟩⟩
theorem fe_bm {T id : String} {name : Str} {apos cpos : Pos} {o e : Expr} {es : List Expr} {f : D → List D → M D} {m : EM} {ms : Env → M (List D)} (pa : PlainAttrs T) (slot : Slot T name id) (hty : typeOf (.builtin id) = pure (.type "method_descriptor")) (hm : MtR X id (rFM X.K f)) (ho : BE X o m) (ha : BA X (e :: es) ms)
    (hbase : attributeBase o name X.env (eval o X.env) = eval o X.env := by rfl)
    (hfew : ((backTo cpos (starEach (e :: es) X.env)).all (fun x => !x.1) && (backToKw cpos (keywordEach [] X.env)).all (fun x => x.1.isSome) && decide ((e :: es).length + ([] : List Keyword).length + (if ([] : List Keyword).isEmpty then 0 else 1) < 30)) = true := by rfl)
    (hline : (apos.endLine == cpos.line) = true := by rfl) (hs : starEach (e :: es) X.env = (false, eval e X.env) :: starEach es X.env := by rfl) (hpl : (backTo cpos (starEach es X.env)).any (·.1) = false := by rfl) :
    FE X (.Call (.Attribute o name apos) (e :: es) [] cpos) (eMeth T f m ms) := pe_imp (pe_bm pa slot hty hm ho ha hbase hfew hline hs hpl) fun σ H Q ⟨G0, H0, G, env, P, ok, hm, k⟩ =>
  ⟨G0, H0, G, env, _, ok, hm, fun d v G1 H1 ⟨ht, p⟩ r1 b1 => ⟨hasT_ty r1.b b1 ht, G0, H0, G1, env, _, ok.mono r1, p, fun ds vs G2 H2 p2 r2 b2 => ⟨G2, d, ds, P, r2.b, b1.mono r2, b2, p2, fun r a G3 H3 p3 r3 y1 y2 y3 => k r a G3 H3 p3 ((r1.trans r2).trans r3) (r1.h.fresh (r2.h.fresh y1)) y2 y3⟩⟩⟩
/-- texts, joined -/
def strsD : List D → Option (List (List Nat))
  | [] => some []
  | .str b :: r => (strsD r).map (b :: ·)
  | _ :: _ => none
def joinD (sep : List Nat) : List (List Nat) → List Nat
  | [] => []
  | [x] => x
  | x :: y :: r => x ++ sep ++ joinD sep (y :: r)
def dJoin : D → List D → M D
  | .str sep, [.lst ds] => fun P => match strsD ds with | some ss => ((ss.map List.length).sum + ss.length * sep.length ≤ lim) ∧ P (.str (joinD sep ss)) | none => False
  | .str sep, [.tup ds] => fun P => match strsD ds with | some ss => ((ss.map List.length).sum + ss.length * sep.length ≤ lim) ∧ P (.str (joinD sep ss)) | none => False
  | _, _ => stuck
theorem RepL.strs {K : PySem.W.Frag} {G : Hp} : ∀ {ds : List D} {vs : List V} {ss : List (List Nat)}, RepL K G ds vs → strsD ds = some ss → vs = (ss.map fun s => (⟨s.toArray⟩ : Str)).map V.str ∧ ∀ s ∈ ss, sOk s = true
  | _, _, _, .nil, h => by cases h; exact ⟨rfl, fun _ h => by cases h⟩
  | _, _, _, .cons (.str s ho) r, h => by
    rw [strsD] at h
    obtain ⟨bs, h1, rfl⟩ := Option.map_eq_some_iff.mp h
    obtain ⟨e1, e2⟩ := r.strs h1
    rw [e1]
    exact ⟨rfl, fun z hz => by
      rcases List.mem_cons.mp hz with rfl | hz
      · exact ho
      · exact e2 z hz⟩
  | _, _, _, .cons .non r, h => by cases h
  | _, _, _, .cons (.bl _) r, h => by cases h
  | _, _, _, .cons (.int _) r, h => by cases h
  | _, _, _, .cons (.tup _ _) r, h => by cases h
  | _, _, _, .cons (.lst _ _) r, h => by cases h
  | _, _, _, .cons (.kt _ _) r, h => by cases h
  | _, _, _, .cons (.scr _) r, h => by cases h
  | _, _, _, .cons (.dK _ _) r, h => by cases h
  | _, _, _, .cons (.dT _ _) r, h => by cases h
  | _, _, _, .cons (.cup _) r, h => by cases h
  | _, _, _, .cons (.ty _) r, h => by cases h
  | _, _, _, .cons (.any _) r, h => by cases h
theorem joinD_ok {sep : List Nat} (hs : sOk sep = true) : ∀ {ss : List (List Nat)}, (∀ s ∈ ss, sOk s = true) → sOk (joinD sep ss) = true
  | [], _ => rfl
  | [x], h => h x (by simp)
  | x :: y :: r, h => sOk_app (sOk_app (h x (by simp)) hs) (joinD_ok hs fun s hm => h s (List.mem_cons_of_mem _ hm))
theorem glued_joinD (sep : List Nat) (ss : List (List Nat)) : Txt.join ⟨sep.toArray⟩ (ss.map fun s => (⟨s.toArray⟩ : Str)) = ⟨(joinD sep ss).toArray⟩ := by
  show Builtin.Str.glued _ _ = _
  unfold Builtin.Str.glued
  have key : ∀ (r : List (List Nat)) (x : List Nat), (r.map fun s => (⟨s.toArray⟩ : Str)).foldl (fun acc p => acc ++ (⟨sep.toArray⟩ : Str).cps ++ p.cps) x.toArray = (joinD sep (x :: r)).toArray := by
    intro r
    induction r with
    | nil => intro x; rfl
    | cons y r ih =>
      intro x
      rw [List.map_cons, List.foldl_cons]
      have e : x.toArray ++ (⟨sep.toArray⟩ : Str).cps ++ (⟨y.toArray⟩ : Str).cps = (x ++ sep ++ y).toArray := by simp
      rw [e, ih]
      congr 1
      cases r with
      | nil => simp [joinD]
      | cons z r => simp [joinD, List.append_assoc]
  cases ss with
  | nil => rfl
  | cons x r => exact congrArg Str.mk (key r x)
theorem m_join : MtR X "str.join" (rGM X.K dJoin) := by
  intro pins s σ H x vs v us Q I rx rv ⟨G, d, ds, P, b, hd, he, hf, k⟩
  have key : ∀ (sep : List Nat) (es : List D) (a : Addr) (ys : List V) (ss : List (List Nat)), sOk sep = true → x = .str ⟨sep.toArray⟩ → vs = [.ref a] → (SqL X.K H a ys ∨ SqT X.K H a ys) → RepL X.K G es ys → strsD es = some ss → ((ss.map List.length).sum + ss.length * sep.length ≤ lim) → P (.str (joinD sep ss)) → wpAny (model X.prog X.w) X.A (call (.builtin "str.join") (v :: us)) (EP X pins σ Q) X.xe s := by
    intro sep es a ys ss hs h1 h2 h3 h4 h5 h6 h7
    obtain ⟨e1, e2⟩ := h4.strs h5
    refine mt_join pins s σ H x vs v us Q I rx rv ⟨_, a, _, h1, h2, by rw [← e1]; exact h3, ?_, ?_⟩
    · have e3 : ((ss.map fun s => (⟨s.toArray⟩ : Str)).map (·.length)) = ss.map List.length := by
        rw [List.map_map]
        congr 1
      have e4 : (⟨sep.toArray⟩ : Str).length = sep.length := by simp [Str.length]
      rw [e3, e4, List.length_map]
      exact lim_le h6
    · rw [glued_joinD]
      exact k _ _ _ _ h7 (.refl b) (.str _ (joinD_ok hs e2))
  unfold dJoin at hf
  split at hf
  · obtain ⟨rfl, hs⟩ := hd.str_inv
    obtain ⟨w, rfl, h⟩ := he.one_inv
    obtain ⟨a, xs, rfl, h1, h2⟩ := h.lst_inv b
    split at hf
    · rename_i ss hss
      exact key _ _ a xs ss hs rfl rfl (.inl (.of h1)) h2 hss hf.1 hf.2
    · exact hf.elim
  · obtain ⟨rfl, hs⟩ := hd.str_inv
    obtain ⟨w, rfl, h⟩ := he.one_inv
    obtain ⟨a, xs, rfl, h1, h2⟩ := h.tup_inv b
    split at hf
    · rename_i ss hss
      exact key _ _ a xs ss hs rfl rfl (.inr h1) h2 hss hf.1 hf.2
    · exact hf.elim
  · exact hf.elim
/-- how often a sign is in a text -/
def dCount : D → List D → M D
  | .str s, [.str [c]] => ret (.int (s.count c))
  | _, _ => stuck
theorem count_one (s : List Nat) (c : Nat) : Txt.count ⟨s.toArray⟩ ⟨#[c]⟩ = (s.count c : Nat) := by
  rw [PyProof.Rows.count_is]
  show PyProof.Rows.cnt c s = _
  induction s with
  | nil => rfl
  | cons n r ih =>
    rw [PyProof.Rows.cnt_cons, ih, List.count_cons]
    by_cases h : n = c
    · subst h; simp; omega
    · simp [h]
theorem m_count : MtR X "str.count" (rGM X.K dCount) := by
  intro pins s σ H x vs v us Q I rx rv ⟨G, d, ds, P, b, hd, he, hf, k⟩
  unfold dCount at hf
  split at hf
  · obtain ⟨rfl, hs⟩ := hd.str_inv
    obtain ⟨w, rfl, h⟩ := he.one_inv
    obtain ⟨rfl, _⟩ := h.str_inv
    refine mt_count pins s σ H _ _ v us Q I rx rv ⟨_, _, rfl, rfl, ?_⟩
    rw [count_one]
    exact k _ _ _ _ hf (.refl b) (.int _)
  · exact hf.elim
end
end G
set_option Elab.async false
set_option linter.all false
set_option maxRecDepth 100000
namespace G
open PySem PySem.Spec PyProof.Rows L2

/-! ### cuts -/
/-- a cut's bound as a place among n -/
def plD (n d : Nat) : Option Int → Nat
  | none => d
  | some v => if v < 0 then (v + (n : Int)).toNat else min v.toNat n
def cutD {α : Type} (xs : List α) (lo hi : Option Int) : List α := (xs.drop (plD xs.length 0 lo)).take (plD xs.length xs.length hi - plD xs.length 0 lo)
theorem plD_eq (n d : Nat) (o : Option Int) : plD n d o = HT.sIx n d o := by cases o <;> rfl
theorem cut_all {α : Type} {xs : List α} {lo hi : Option Int} (h1 : HT.sIx xs.length 0 lo = 0) (h2 : HT.sIx xs.length xs.length hi = xs.length) : cutD xs lo hi = xs := by
  unfold cutD
  rw [plD_eq, plD_eq, h1, h2, List.drop_zero, Nat.sub_zero, List.take_length]
theorem cutD_mem {α : Type} {xs : List α} {lo hi : Option Int} {x : α} (h : x ∈ cutD xs lo hi) : x ∈ xs := List.mem_of_mem_drop (List.mem_of_mem_take h)
theorem sOk_cut {s : List Nat} (h : sOk s = true) (lo hi : Option Int) : sOk (cutD s lo hi) = true := List.all_eq_true.mpr fun c hc => List.all_eq_true.mp h c (cutD_mem hc)
theorem RepL.cut {K : PySem.W.Frag} {G : Hp} {ds : List D} {vs : List V} (r : RepL K G ds vs) (lo hi : Option Int) : RepL K G (cutD ds lo hi) (L2.cutV vs lo hi) := by
  unfold cutD L2.cutV
  rw [plD_eq, plD_eq, r.len]
  exact (r.drop _).take _
section
variable {X : Cx}
def tGO (K : PySem.W.Frag) (m : Env → M (Option Int)) : TO := fun σ H Q => ∃ G0 H0 G env P, Ok K G0 H0 G H σ env ∧ m env P ∧ ∀ o G' H', P o → Gr G H G' H' → Q o H'
abbrev GO (X : Cx) (o : Option Expr) (m : Env → M (Option Int)) : Prop := PO X o (tGO X.K m)
def oNone : Env → M (Option Int) := fun _ P => P none
def isI (P : Int → Prop) : D → Prop
  | .int i => P i
  | _ => False
def oSome (m : EM) : Env → M (Option Int) := fun env P => m env (isI fun i => P (some i))
theorem isI_inv {P : Int → Prop} {d : D} (h : isI P d) : ∃ i, d = .int i ∧ P i := by cases d <;> first | exact ⟨_, rfl, h⟩ | exact h.elim
theorem po_imp {o : Option Expr} {t t' : TO} (h : PO X o t) (k : ∀ σ H Q, t' σ H Q → t σ H Q) : PO X o t' := ⟨fun pins s σ H Q I q => h.run pins s σ H Q I (k σ H Q q)⟩
theorem go_none : GO X none oNone := po_imp po_none fun σ H Q ⟨G0, H0, G, env, P, ok, q, k⟩ => k none G H q (.refl ok.gr.b)
theorem Rep.int_inv {K : PySem.W.Frag} {G : Hp} {i : Int} {v : V} (h : Rep K G (.int i) v) : v = .int i := by cases h; rfl
theorem go_some {e : Expr} {m : EM} (h : GE X e m) : GO X (some e) (oSome m) := po_imp (po_some h) fun σ H Q ⟨G0, H0, G, env, P, ok, q, k⟩ => ⟨G0, H0, G, env, _, ok, q, fun d v G' H' p r y => by
  obtain ⟨i, rfl, p⟩ := isI_inv p
  exact ⟨i, y.int_inv, k _ _ _ p r⟩⟩
def dSl : D → Option Int → Option Int → M D
  | .str s, lo, hi => ask (s.length ≤ lim) (ret (.str (cutD s lo hi)))
  | .tup ds, lo, hi => ret (.tup (cutD ds lo hi))
  | .lst ds, lo, hi => ret (.lst (cutD ds lo hi))
  | _, _, _ => stuck
def fSl : D → Option Int → Option Int → M D
  | .lst ds, lo, hi => ret (.lst (cutD ds lo hi))
  | _, _, _ => stuck
def eSl (f : D → Option Int → Option Int → M D) (a : EM) (lo hi : Env → M (Option Int)) : EM := fun env P => a env fun d => lo env fun l => hi env fun h => f d l h P
def rGS (K : PySem.W.Frag) (f : D → Option Int → Option Int → M D) : V → Option Int → Option Int → Hp → VK → Prop := fun x lo hi H Q => ∃ G d P, Ex G H ∧ RepB K G H d x ∧ f d lo hi P ∧ ∀ r v G' H', P r → Gr G H G' H' → Rep K G' r v → Q v H'
def rFS (K : PySem.W.Frag) (f : D → Option Int → Option Int → M D) : V → Option Int → Option Int → Hp → VK → Prop := fun x lo hi H Q => ∃ G d P, Ex G H ∧ RepB K G H d x ∧ f d lo hi P ∧ ∀ r a G' H', P r → Gr G H G' H' → H a = none → G' a = none → Own K G' H' a r → Q (.ref a) H'
theorem ge_slice {e : Expr} {m : EM} {l h : Env → M (Option Int)} {lo hi : Option Expr} {p2 pos : Pos} {f : D → Option Int → Option Int → M D} (hr : SlR X (rGS X.K f)) (he : BE X e m) (hl : GO X lo l) (hh : GO X hi h) : GE X (.Subscript e (.Slice lo hi none p2) pos) (eSl f m l h) :=
  pe_imp (pe_slice hr he hl hh) fun σ H Q ⟨G0, H0, G, env, P, ok, q, k⟩ => ⟨G0, H0, G, env, _, ok, q, fun d v G1 H1 p r1 b1 => ⟨G0, H0, G1, env, _, ok.mono r1, p, fun o G2 H2 p2 r2 => ⟨G0, H0, G2, env, _, (ok.mono r1).mono r2, p2, fun o2 G3 H3 p3 r3 =>
    ⟨G3, d, P, r3.b, (b1.mono r2).mono r3, p3, fun r v G4 H4 p4 r4 y => k r v G4 H4 p4 (((r1.trans r2).trans r3).trans r4) y⟩⟩⟩⟩
theorem fe_slice {e : Expr} {m : EM} {l h : Env → M (Option Int)} {lo hi : Option Expr} {p2 pos : Pos} {f : D → Option Int → Option Int → M D} (hr : SlR X (rFS X.K f)) (he : BE X e m) (hl : GO X lo l) (hh : GO X hi h) : FE X (.Subscript e (.Slice lo hi none p2) pos) (eSl f m l h) :=
  pe_imp (pe_slice hr he hl hh) fun σ H Q ⟨G0, H0, G, env, P, ok, q, k⟩ => ⟨G0, H0, G, env, _, ok, q, fun d v G1 H1 p r1 b1 => ⟨G0, H0, G1, env, _, ok.mono r1, p, fun o G2 H2 p2 r2 => ⟨G0, H0, G2, env, _, (ok.mono r1).mono r2, p2, fun o2 G3 H3 p3 r3 =>
    ⟨G3, d, P, r3.b, (b1.mono r2).mono r3, p3, fun r a G4 H4 p4 r4 y1 y2 y3 => k r a G4 H4 p4 (((r1.trans r2).trans r3).trans r4) (r1.h.fresh (r2.h.fresh (r3.h.fresh y1))) y2 y3⟩⟩⟩⟩
theorem sl_dSl : SlR X (rGS X.K dSl) := by
  intro pins s σ H x v vl vu lo hi sl Q I rx hs pl pu ⟨G, d, P, b, hd, hf, k⟩
  unfold dSl at hf
  split at hf
  · obtain ⟨rfl, ho⟩ := hd.str_inv
    obtain ⟨hl, hf⟩ := hf
    refine sl_str pins s σ H _ v vl vu _ _ sl Q I rx hs pl pu ⟨_, rfl, by simpa [Str.length] using lim_le hl, ?_⟩
    have := k _ _ _ _ hf (.refl b) (.str _ (sOk_cut ho _ _))
    unfold cutD at this
    unfold L2.cutS
    simpa [plD_eq, Str.length] using this
  · obtain ⟨a, vs, rfl, h1, h2⟩ := hd.tup_inv b
    refine sl_tupA pins s σ H _ v vl vu _ _ sl Q I rx hs pl pu ⟨a, vs, rfl, h1, fun hw => ?_, fun hw p hp => ?_⟩
    · rw [cut_all (by rw [h2.len]; exact hw.1) (by rw [h2.len]; exact hw.2)] at hf
      cases hd with
      | rep hr => exact k _ _ _ _ hf (.refl b) hr
    · exact k _ _ _ _ hf (.new b hp) (.tup upd_same ((h2.cut _ _).mono (.new (b.fresh hp))))
  · obtain ⟨a, vs, rfl, h1, h2⟩ := hd.lst_inv b
    exact sl_list pins s σ H _ v vl vu _ _ sl Q I rx hs pl pu ⟨a, vs, rfl, .of h1, fun p hp => k _ _ _ _ hf (.new b hp) (.lst upd_same ((h2.cut _ _).mono (.new (b.fresh hp))))⟩
  · exact hf.elim
theorem sl_fSl : SlR X (rFS X.K fSl) := by
  intro pins s σ H x v vl vu lo hi sl Q I rx hs pl pu ⟨G, d, P, b, hd, hf, k⟩
  unfold fSl at hf
  split at hf
  · obtain ⟨a, vs, rfl, h1, h2⟩ := hd.lst_inv b
    exact sl_list pins s σ H _ v vl vu _ _ sl Q I rx hs pl pu ⟨a, vs, rfl, .of h1, fun p hp => k _ p G _ hf (.newO b hp) hp (b.fresh hp) (.lst upd_same (h2.cut _ _))⟩
  · exact hf.elim
/-! x[::-1] -/
def eRevL (m : EM) : EM := fun env P => m env fun d => match d with | .lst ds => P (.lst ds.reverse) | _ => False
theorem fe_revL {e : Expr} {m : EM} {k : Nat} {p1 p2 p3 pos : Pos} (he : BE X e m) : FE X (.Subscript e (.Slice none none (some (.UnaryOp .USub (.Constant (.int 1) k p1) p2)) p3) pos) (eRevL m) :=
  pe_imp (pe_revL he) fun σ H Q ⟨G0, H0, G, env, P, ok, q, k⟩ => ⟨G0, H0, G, env, _, ok, q, fun d v G1 H1 p r1 b1 => by
    split at p
    · obtain ⟨a, vs, rfl, h1, h2⟩ := b1.lst_inv r1.b
      exact ⟨a, vs, rfl, .of h1, fun l hl => k _ l G1 _ p (r1.trans (.newO r1.b hl)) (r1.h.fresh hl) (r1.b.fresh hl) (.lst upd_same h2.rev)⟩
    · exact p.elim⟩
/-- a text, a list backwards -/
def dRev : D → M D
  | .str s => ask (s.length ≤ lim) (ret (.str s.reverse))
  | .lst ds => ret (.lst ds.reverse)
  | _ => stuck
def eRev (m : EM) : EM := eUn dRev m
theorem picks_back (n : Nat) : Builtin.Str.strSliceIndices none none (-1) n = (List.range n).reverse := by
  unfold Builtin.Str.strSliceIndices
  show sliceRange ((n : Int) - 1) (-1) (-1) = _
  rw [PySem.W.krv_sliceRange, PySem.W.krv_range]
theorem ge_rev {e : Expr} {m : EM} {kk : Nat} {p1 p2 p3 pos : Pos} (he : BE X e m) : GE X (.Subscript e (.Slice none none (some (.UnaryOp .USub (.Constant (.int 1) kk p1) p2)) p3) pos) (eRev m) := by
  refine ⟨fun pins s σ H Q I ⟨G0, H0, G, env, P, ok, q, k⟩ => ?_⟩
  have h1 : tB X.K m σ H (fun v H' => ∃ d G', dRev d P ∧ RepB X.K G' H' d v ∧ Gr G H G' H') := ⟨G0, H0, G, env, _, ok, q, fun d v G1 H1 p r1 b1 => ⟨d, G1, p, b1, r1⟩⟩
  refine Subscript_ (thn (he.run pins s σ H _ I h1) fun v s1 ⟨x, H1, I1, r1, d, G', p, rb, gr⟩ => ?_)
  have hst : PO X (some (.UnaryOp .USub (.Constant (.int 1) kk p1) p2)) (tPart (tUn (rU fun i => .int (-i)) (tC (.int 1)))) := po_some (pe_un un_neg pe_int)
  refine wpAny_Slice (thn (po_none.run pins s1 σ H1 (fun o H2 => o = none ∧ H2 = H1) I1 ⟨rfl, rfl⟩) fun vl s2 ⟨l, H2, I2, pl, el, e2⟩ => ?_)
  subst el e2
  refine thn (po_none.run pins s2 σ H2 (fun o H3 => o = none ∧ H3 = H2) I2 ⟨rfl, rfl⟩) fun vu s3 ⟨u, H3, I3, pu, eu, e3⟩ => ?_
  subst eu e3
  refine thn (hst.run pins s3 σ H3 (fun o H4 => o = some (-1) ∧ H4 = H3) I3 ⟨1, rfl, -1, rfl, rfl, rfl⟩) fun vs s4 ⟨o, H4, I4, ps, eo, e4⟩ => ?_
  subst eo e4
  unfold dRev at p
  split at p
  · rename_i sx
    obtain ⟨rfl, ho⟩ := rb.str_inv
    obtain ⟨t, rfl⟩ := r1
    obtain ⟨hl, p⟩ := p
    obtain ⟨l1, rfl, el⟩ := IsPart.raw pl
    obtain ⟨u1, rfl, eu⟩ := IsPart.raw pu
    obtain ⟨w1, rfl, ew⟩ := IsPart.raw ps
    have I5 := I4.kept (t' := s4.toks) (h' := s4.heap.push { cls := .type "slice", data := .fields #[partValue l1, partValue u1, partValue w1] }) fun b ob q => Heap.get?_push_of_some _ q
    have el : l1 = none := by cases l1 <;> simp_all
    have eu : u1 = none := by cases u1 <;> simp_all
    subst el eu
    obtain ⟨tw, rfl⟩ : ∃ tw, w1 = some (-1, tw) := by
      cases w1 with
      | none => cases ew
      | some q => obtain ⟨i, tw⟩ := q; cases ew; exact ⟨tw, rfl⟩
    refine tail_any (ops := [.str ⟨sx.toArray⟩ t, .ref s4.heap.objs.size]) (T := "str") (typeIs_str _ _ _) PySem.F.slot_str_getitem.lookup ?_ (by with_unfolding_all rfl)
    refine wpAny_getItem_str_slice (l := none) (u := none) (st := some (-1, tw)) ⟨_, Heap.get?_push_size _ rfl, rfl, rfl⟩ (by rfl) ?_
    have em : sliceMade (⟨sx.toArray⟩ : Str) t none none (some (-1, tw)) = .str ⟨sx.reverse.toArray⟩ := by
      unfold sliceMade
      rw [if_neg (by intro z; exact nomatch z)]
      unfold slicePicked
      show Made.str ⟨((Builtin.Str.strSliceIndices none none (-1) (Str.length ⟨sx.toArray⟩)).filterMap (sx.toArray[·]?)).toArray⟩ = _
      rw [picks_back, List.filterMap_reverse]
      have : (List.range (Str.length ⟨sx.toArray⟩)).filterMap (sx.toArray[·]?) = sx := PySem.W.krv_all sx.toArray
      rw [this]
    rw [em]
    refine ⟨?_, .str _, H4, I5.tok _, ⟨_, rfl⟩, k _ _ _ _ p gr (.str _ ?_)⟩
    · have := lim_le hl
      simpa [Str.length] using this
    · unfold sOk at ho ⊢; rw [List.all_reverse]; exact ho
  · obtain ⟨a, xs, rfl, ha, hr⟩ := rb.lst_inv gr.b
    cases r1
    have I5 := I4.kept (t' := s4.toks) (h' := s4.heap.push { cls := .type "slice", data := .fields #[vl, vu, vs] }) fun b ob q => Heap.get?_push_of_some _ q
    obtain ⟨its, r, ht, hz⟩ := I5.list (.of ha)
    have hlen := r.length
    refine tail_any (ops := [.ref a, .ref s4.heap.objs.size]) ht.isList.typeIs PySem.F.slot_list_getitem.lookup ?_ (by with_unfolding_all rfl)
    refine wpAny_getItem_list_slice ht.isList (Heap.IsSliceOf.new _ vl vu vs) pl pu ps (by decide) ?_ (by rw [List.size_toArray]; omega)
    rw [PySem.W.krv_pick]
    have hn := I5.hok.fresh (Nat.le_refl _)
    exact ⟨.ref _, _, I5.laid (t' := s4.toks) (o := .lst xs.reverse) (fun b ob q => Heap.get?_push_of_some _ q) (Nat.le_refl _) ⟨by rw [List.length_reverse]; exact hz, _, 0, r.reverse, Heap.get?_push_size _ rfl⟩, rfl, k _ _ _ _ p (gr.trans (.new gr.b hn)) (.lst upd_same (hr.rev.mono (.new (gr.b.fresh hn))))⟩
  · exact p.elim
end
end G
set_option Elab.async false
set_option linter.all false
set_option maxRecDepth 100000
namespace G
open PySem PySem.Spec PyProof.Rows L2

section
variable {X : Cx} {st : Stmt} {S T : SM} {e c : Expr} {m n : EM} {pos : Pos}
/-! ### x.append(e) of an owned list -/
def sAppend (i : Nat) (m : EM) : SM := fun E env => match getS env i with
  | .ow (.lst ds) => m env fun d => ds.length < lim ∧ E.nx (setS env i (.ow (.lst (ds ++ [d]))))
  | _ => False
theorem gs_append (i : Nat) {call : Expr} (h : PE X call (tBM X.K "list" rAppend (tVar i) (tCons (tG X.K m) tNil))) (hs : swapsWith call none pos.line X.env = pure false := by rfl) : GS X (.Expr call pos) (sAppend i m) :=
  ps_imp (ps_expr h hs) fun Dn σ H ⟨G0, H0, G, env, E, ok, q, k⟩ => by
    unfold sAppend at q
    split at q
    · rename_i ds e
      obtain ⟨a, hs, h0, hg, ho⟩ := ok.ow e
      cases ho with
      | lst hl hr =>
        refine ⟨.ref a, hs, .inl ⟨rfl, _, .of hl⟩, G0, H0, G, env, _, ok, q, fun d v G1 H1 ⟨p1, p2⟩ r1 y => ?_⟩
        have hl1 := r1.h _ _ hl
        have hg1 := r1.n a (by rw [hl]; exact fun z => nomatch z) hg
        refine ⟨a, _, v, rfl, rfl, hl1, by rw [← hr.len]; exact lim_lt p1, k.nx _ _ _ _ p2 ((ok.mono r1).put e hs h0 hg1 (.lst upd_same ((hr.mono r1.g).app (.one y))))⟩
    · exact q.elim
/-- x = y.pop(), y an owned list -/
def sPopT (i : Nat) (g : GM) : SM := fun E env => match getS env i with
  | .ow (.lst ds) => (match ds.getLast? with
    | some d => g d (setS env i (.ow (.lst ds.dropLast))) E.nx
    | none => False)
  | _ => False
theorem gs_popT (i : Nat) {call tg : Expr} {ts : List Nat} {g : GM} (h : PE X call (tBM0 X.K "list" rPop (tVar i))) (hg : GG X tg ts g) (hs : swapsWithSole [tg] call pos.line X.env = pure false := by rfl) (hw : swappedStores [tg] call X.env = pure none := by rfl) (h1 : (assignEach [tg] X.env).map (·.2) = [assign tg X.env] := by rfl) :
    GS X (.Assign [tg] call pos) (sPopT i g) :=
  ps_imp (ps_asg h hg hs hw h1) fun Dn σ H ⟨G0, H0, G, env, E, ok, q, k⟩ => by
    unfold sPopT at q
    split at q
    · rename_i ds e
      obtain ⟨a, hs, h0, hg, ho⟩ := ok.ow e
      cases ho with
      | @lst _ vs hl hr =>
        split at q
        · rename_i d hd
          rw [List.getLast?_eq_getElem?] at hd
          obtain ⟨v, hv, hy⟩ := hr.get hd
          refine ⟨.ref a, hs, .inl ⟨rfl, _, .of hl⟩, a, vs, v, rfl, rfl, hl, by rw [← hr.len]; exact hv, ?_⟩
          have hr2 : RepL X.K G ds.dropLast vs.dropLast := by
            rw [List.dropLast_eq_take, List.dropLast_eq_take, hr.len]
            exact hr.take _
          exact ⟨G0, H0, G, _, d, _, ok.put e hs h0 hg (.lst upd_same hr2), hy, q, fun env' σ' p o _ _ => k.nx _ _ _ _ p o⟩
        · exact q.elim
    · exact q.elim
/-- y.pop() alone -/
def sPop0 (i : Nat) : SM := fun E env => match getS env i with
  | .ow (.lst ds) => ds ≠ [] ∧ E.nx (setS env i (.ow (.lst ds.dropLast)))
  | _ => False
theorem gs_pop0 (i : Nat) {call : Expr} (h : PE X call (tBM0 X.K "list" rPop (tVar i))) (hs : swapsWith call none pos.line X.env = pure false := by rfl) : GS X (.Expr call pos) (sPop0 i) :=
  ps_imp (ps_expr h hs) fun Dn σ H ⟨G0, H0, G, env, E, ok, q, k⟩ => by
    unfold sPop0 at q
    split at q
    · rename_i ds e
      obtain ⟨a, hs, h0, hg, ho⟩ := ok.ow e
      cases ho with
      | @lst _ vs hl hr =>
        have hv : vs ≠ [] := fun z => q.1 (by have := hr.len; rw [z] at this; exact List.length_eq_zero_iff.mp this)
        refine ⟨.ref a, hs, .inl ⟨rfl, _, .of hl⟩, a, vs, vs.getLast hv, rfl, rfl, hl, ?_, ?_⟩
        · rw [← List.getLast?_eq_getElem?, List.getLast?_eq_some_getLast hv]
        · have hr2 : RepL X.K G ds.dropLast vs.dropLast := by
            rw [List.dropLast_eq_take, List.dropLast_eq_take, hr.len]
            exact hr.take _
          exact k.nx _ _ _ _ q.2 (ok.put e hs h0 hg (.lst upd_same hr2))
    · exact q.elim

/-! ### dicts: keys -/
/-- a key: an int, a text; a tuple of such -/
def keyK : D → Option Key
  | .int i => some (.inl i)
  | .str s => some (.inr ⟨s.toArray⟩)
  | _ => none
def keysK : List D → Option (List Key)
  | [] => some []
  | d :: ds => match keyK d, keysK ds with
    | some k, some ks => some (k :: ks)
    | _, _ => none
theorem keyK_eq {d : D} {k : Key} (h : keyK d = some k) : d = kD k := by
  cases d <;> first | (cases h; rfl) | cases h
theorem keysK_eq : ∀ {ds : List D} {ks : List Key}, keysK ds = some ks → ds = ks.map kD
  | [], _, h => by cases h; rfl
  | d :: ds, ks, h => by
    unfold keysK at h
    split at h
    · rename_i k ks' h1 h2
      cases h
      rw [keyK_eq h1, keysK_eq h2]; rfl
    · cases h
theorem rep_key {K : PySem.W.Frag} {G : Hp} {k : Key} {v : V} (h : Rep K G (kD k) v) : v = kV k := by
  cases k with
  | inl i => cases h; rfl
  | inr x => cases h; rfl
theorem rep_keys {K : PySem.W.Frag} {G : Hp} : ∀ {ks : List Key} {vs : List V}, RepL K G (ks.map kD) vs → vs = ks.map kV
  | [], _, .nil => rfl
  | k :: ks, _, .cons h r => by rw [rep_key h, rep_keys r]; rfl
theorem eqv_kD (a b : Key) : eqv (kD a) (kD b) = decide (a = b) := by
  cases a with
  | inl i => cases b with
    | inl j =>
      show (i == j) = _
      by_cases h : i = j
      · subst h; simp
      · rw [beq_eq_false_iff_ne.mpr h, decide_eq_false (fun z => h (Sum.inl.inj z))]
    | inr y => rw [decide_eq_false (fun z => nomatch z)]; rfl
  | inr x => cases b with
    | inl j => rw [decide_eq_false (fun z => nomatch z)]; rfl
    | inr y =>
      show (x.cps.toList == y.cps.toList) = _
      by_cases h : x = y
      · subst h; simp
      · rw [decide_eq_false (fun z => h (Sum.inr.inj z)), beq_eq_false_iff_ne]
        intro z
        apply h
        cases x; cases y
        congr 1
        exact Array.toList_inj.mp z
theorem eqvL_kD : ∀ (a b : List Key), eqvL (a.map kD) (b.map kD) = decide (a = b)
  | [], [] => by simp [eqvL]
  | [], _ :: _ => by simp [eqvL]
  | _ :: _, [] => by simp [eqvL]
  | x :: a, y :: b => by
    show (eqv (kD x) (kD y) && eqvL (a.map kD) (b.map kD)) = _
    rw [eqv_kD, eqvL_kD a b]
    by_cases h1 : x = y <;> by_cases h2 : a = b <;> simp [h1, h2]
/-- what stands under a key; a pair stored -/
def lookD (kvs : List (D × D)) (k : D) : Option D := (kvs.find? fun p => eqv p.1 k).map (·.2)
def putL (kvs : List (D × D)) (k v : D) : List (D × D) := if (kvs.any fun p => eqv p.1 k) = true then kvs.map (fun p => if eqv p.1 k = true then (p.1, v) else p) else kvs ++ [(k, v)]
section
variable {K : PySem.W.Frag} {G : Hp}
theorem RepK.look : ∀ {kvs : List (D × D)} {hs : List (Key × V)} {k : Key}, RepK K G kvs hs → (∀ d, lookD kvs (kD k) = some d → ∃ v, valV hs k = some v ∧ Rep K G d v) ∧ (lookD kvs (kD k) = none → valV hs k = none)
  | _, _, k, .nil => ⟨fun d h => (nomatch (show (none : Option D) = some d from h)), fun _ => rfl⟩
  | _, _, k, .cons (k := k') (d := d) (v := v) (ds := ds) (vs := vs) h r => by
    have ih := r.look (k := k)
    by_cases hk : k' = k
    · have e1 : lookD ((kD k', d) :: ds) (kD k) = some d := by simp [lookD, List.find?_cons, eqv_kD, hk]
      rw [e1, valV_pos (by exact hk)]
      exact ⟨fun d2 h2 => by cases h2; exact ⟨v, rfl, h⟩, fun z => nomatch z⟩
    · have e1 : lookD ((kD k', d) :: ds) (kD k) = lookD ds (kD k) := by simp [lookD, List.find?_cons, eqv_kD, hk]
      rw [e1, valV_neg (by exact hk)]
      exact ih
theorem RepT.look : ∀ {kvs : List (D × D)} {hs : List (List Key × V)} {k : List Key}, RepT K G kvs hs → (∀ d, lookD kvs (.tup (k.map kD)) = some d → ∃ v, valV hs k = some v ∧ Rep K G d v) ∧ (lookD kvs (.tup (k.map kD)) = none → valV hs k = none)
  | _, _, k, .nil => ⟨fun d h => (nomatch (show (none : Option D) = some d from h)), fun _ => rfl⟩
  | _, _, k, .cons (k := k') (d := d) (v := v) (ds := ds) (vs := vs) h r => by
    have ih := r.look (k := k)
    have e0 : eqv (.tup (k'.map kD)) (.tup (k.map kD)) = decide (k' = k) := eqvL_kD k' k
    by_cases hk : k' = k
    · have e1 : lookD ((.tup (k'.map kD), d) :: ds) (.tup (k.map kD)) = some d := by
        unfold lookD
        rw [List.find?_cons, e0, decide_eq_true hk]; rfl
      rw [e1, valV_pos (by exact hk)]
      exact ⟨fun d2 h2 => by cases h2; exact ⟨v, rfl, h⟩, fun z => nomatch z⟩
    · have e1 : lookD ((.tup (k'.map kD), d) :: ds) (.tup (k.map kD)) = lookD ds (.tup (k.map kD)) := by
        unfold lookD
        rw [List.find?_cons, e0, decide_eq_false hk]
      rw [e1, valV_neg (by exact hk)]
      exact ih
theorem RepK.len : ∀ {kvs : List (D × D)} {hs : List (Key × V)}, RepK K G kvs hs → kvs.length = hs.length
  | _, _, .nil => rfl
  | _, _, .cons _ r => congrArg (· + 1) r.len
theorem RepT.len : ∀ {kvs : List (D × D)} {hs : List (List Key × V)}, RepT K G kvs hs → kvs.length = hs.length
  | _, _, .nil => rfl
  | _, _, .cons _ r => congrArg (· + 1) r.len
theorem RepK.app : ∀ {kvs ls : List (D × D)} {hs us : List (Key × V)}, RepK K G kvs hs → RepK K G ls us → RepK K G (kvs ++ ls) (hs ++ us)
  | _, _, _, _, .nil, s => s
  | _, _, _, _, .cons h r, s => .cons h (r.app s)
theorem RepT.app : ∀ {kvs ls : List (D × D)} {hs us : List (List Key × V)}, RepT K G kvs hs → RepT K G ls us → RepT K G (kvs ++ ls) (hs ++ us)
  | _, _, _, _, .nil, s => s
  | _, _, _, _, .cons h r, s => .cons h (r.app s)
theorem RepK.any : ∀ {kvs : List (D × D)} {hs : List (Key × V)} (k : Key), RepK K G kvs hs → (kvs.any fun p => eqv p.1 (kD k)) = (hs.any fun kv => decide (kv.1 = k))
  | _, _, _, .nil => rfl
  | _, _, k, .cons _ r => by rw [List.any_cons, List.any_cons, r.any k, eqv_kD]
theorem RepT.any : ∀ {kvs : List (D × D)} {hs : List (List Key × V)} (k : List Key), RepT K G kvs hs → (kvs.any fun p => eqv p.1 (.tup (k.map kD))) = (hs.any fun kv => decide (kv.1 = k))
  | _, _, _, .nil => rfl
  | _, _, k, .cons _ r => by
    rw [List.any_cons, List.any_cons, r.any k]
    congr 1
    exact eqvL_kD _ _
theorem RepK.rep : ∀ {kvs : List (D × D)} {hs : List (Key × V)} {k : Key} {d : D} {v : V}, RepK K G kvs hs → Rep K G d v → RepK K G (kvs.map fun p => if eqv p.1 (kD k) = true then (p.1, d) else p) (hs.map fun kv => if kv.1 = k then (kv.1, v) else kv)
  | _, _, _, _, _, .nil, _ => .nil
  | _, _, k, d, v, .cons (k := k') h r, y => by
    rw [List.map_cons, List.map_cons, eqv_kD]
    by_cases hk : k' = k
    · simp only [hk, decide_true, if_true]; exact .cons y (r.rep y)
    · simp only [hk, decide_false, Bool.false_eq_true, if_false]; exact .cons h (r.rep y)
theorem RepT.rep : ∀ {kvs : List (D × D)} {hs : List (List Key × V)} {k : List Key} {d : D} {v : V}, RepT K G kvs hs → Rep K G d v → RepT K G (kvs.map fun p => if eqv p.1 (.tup (k.map kD)) = true then (p.1, d) else p) (hs.map fun kv => if kv.1 = k then (kv.1, v) else kv)
  | _, _, _, _, _, .nil, _ => .nil
  | _, _, k, d, v, .cons (k := k') h r, y => by
    have e0 : eqv (.tup (k'.map kD)) (.tup (k.map kD)) = decide (k' = k) := eqvL_kD k' k
    rw [List.map_cons, List.map_cons, e0]
    by_cases hk : k' = k
    · simp only [hk, decide_true, if_true]; exact .cons y (r.rep y)
    · simp only [hk, decide_false, Bool.false_eq_true, if_false]; exact .cons h (r.rep y)
theorem RepK.put {kvs : List (D × D)} {hs : List (Key × V)} {k : Key} {d : D} {v : V} (r : RepK K G kvs hs) (y : Rep K G d v) : RepK K G (putL kvs (kD k) d) (putK hs k v) := by
  unfold putL putK
  rw [r.any k]
  split
  · exact r.rep y
  · exact r.app (.cons y .nil)
theorem RepT.put {kvs : List (D × D)} {hs : List (List Key × V)} {k : List Key} {d : D} {v : V} (r : RepT K G kvs hs) (y : Rep K G d v) : RepT K G (putL kvs (.tup (k.map kD)) d) (putK hs k v) := by
  unfold putL putK
  rw [r.any k]
  split
  · exact r.rep y
  · exact r.app (.cons y .nil)
end
/-- a key of such a dict -/
def okK : D → D → Prop
  | .dK _, k => (keyK k).isSome = true
  | .dT _, .tup ks => (keysK ks).isSome = true
  | _, _ => False
def pairsD : D → List (D × D)
  | .dK kvs => kvs
  | .dT kvs => kvs
  | _ => []
/-- what a dict tells of a key -/
theorem get_of {K : PySem.W.Frag} {G H : Hp} (b : Ex G H) {c k : D} {x y : V} (hc : RepB K G H c x) (hk : RepB K G H k y) (ho : okK c k) : ∃ a o, x = .ref a ∧ DGet H a y o ∧ IsD H a ∧ (∀ d, lookD (pairsD c) k = some d → ∃ v, o = some v ∧ Rep K G d v) ∧ (lookD (pairsD c) k = none → o = none) := by
  cases c with
  | dK kvs =>
    obtain ⟨a, hs, rfl, h1, h2⟩ := hc.dK_inv b
    obtain ⟨kk, hkk⟩ := Option.isSome_iff_exists.mp ho
    have e := keyK_eq hkk
    subst e
    have hy : y = kV kk := by
      cases kk with
      | inl i => exact hk.int_inv
      | inr z => exact hk.str_inv.1
    subst hy
    exact ⟨a, _, rfl, .k h1, .inl ⟨_, .of h1⟩, h2.look.1, h2.look.2⟩
  | dT kvs =>
    obtain ⟨a, hs, rfl, h1, h2⟩ := hc.dT_inv b
    cases k with
    | tup ks =>
      obtain ⟨kk, hkk⟩ := Option.isSome_iff_exists.mp ho
      have e := keysK_eq hkk
      subst e
      obtain ⟨q, us, rfl, h3, h4⟩ := hk.tupT_inv b
      have hu := rep_keys h4
      subst hu
      exact ⟨a, _, rfl, .t h1 h3, .inr ⟨_, .of h1⟩, h2.look.1, h2.look.2⟩
    | _ => exact ho.elim
  | _ => exact ho.elim
/-! item, membership, with dicts -/
def dIxD (c k : D) : M D := fun P => okK c k ∧ match lookD (pairsD c) k with | some d => P d | none => False
/-- an item of a list, a tuple, a text, a dict -/
def dItem : D → D → M D
  | .dK kvs, k => dIxD (.dK kvs) k
  | .dT kvs, k => dIxD (.dT kvs) k
  | c, k => dIx c k
theorem ix_item (hu : X.A.units + 65 < cLine) : IxR X (rG2 X.K dItem) := by
  intro value slice pins s σ H x y v u Q I rx ry ⟨G, d, e, P, b, hd, he, hf, k⟩ hs
  have key : ∀ c : D, RepB X.K G H c x → dIxD c e P → wpAny (model X.prog X.w) X.A (subscriptTail value slice v u) (EP X pins σ Q) X.xe s := by
    intro c hc ⟨ho, hf⟩
    obtain ⟨a, o, rfl, hg, _, h1, h2⟩ := get_of b hc he ho
    split at hf
    · rename_i r hr
      obtain ⟨z, rfl, hz⟩ := h1 r hr
      obtain rfl : v = Value.ref a := rx
      exact tail_any (ops := [.ref a, u]) (dict_typeIs I hg) PySem.F.slot_dict_getitem.lookup (d_getItem (by omega) I hg ry fun w' s3 I3 rw' => ⟨z, H, I3, rw', k _ _ _ _ hf (.refl b) hz⟩) hs
    · exact hf.elim
  unfold dItem at hf
  split at hf
  · exact key _ hd hf
  · exact key _ hd hf
  · exact ix_dIx value slice pins s σ H x y v u Q I rx ry ⟨G, _, _, P, b, hd, he, hf, k⟩ hs
def dInA : D → D → M D
  | k, .dK kvs => ask (okK (.dK kvs) k) (ret (.bl (lookD kvs k).isSome))
  | k, .dT kvs => ask (okK (.dT kvs) k) (ret (.bl (lookD kvs k).isSome))
  | k, c => dIn k c
def dNotInA : D → D → M D
  | k, .dK kvs => ask (okK (.dK kvs) k) (ret (.bl (!(lookD kvs k).isSome)))
  | k, .dT kvs => ask (okK (.dT kvs) k) (ret (.bl (!(lookD kvs k).isSome)))
  | k, c => dNotIn k c
theorem some_of {K : PySem.W.Frag} {G : Hp} {kvs : List (D × D)} {k : D} {o : Option V} (h1 : ∀ d, lookD kvs k = some d → ∃ v, o = some v ∧ Rep K G d v) (h2 : lookD kvs k = none → o = none) : o.isSome = (lookD kvs k).isSome := by
  cases e : lookD kvs k with
  | none => rw [h2 e]; rfl
  | some d => obtain ⟨v, rfl, _⟩ := h1 d e; rfl
theorem op_dInA (hu : X.A.units + 65 < cLine) : OpR X (compareOp .In) (rG2 X.K dInA) := by
  intro pins s σ H x y v u Q I rx ry ⟨G, d, e, P, b, hd, he, hf, k⟩
  have key : ∀ c : D, RepB X.K G H c y → okK c d → P (.bl (lookD (pairsD c) d).isSome) → wpAny (model X.prog X.w) X.A (compareOp .In v u) (EP X pins σ Q) X.xe s := by
    intro c hc ho hf
    obtain ⟨a, o, rfl, hg, _, h1, h2⟩ := get_of b hc hd ho
    obtain rfl : u = Value.ref a := ry
    exact d_in (by omega) I hg rx fun s3 I3 => ⟨.bl o.isSome, H, I3, rfl, by rw [some_of h1 h2]; exact k _ _ _ _ hf (.refl b) (.bl _)⟩
  unfold dInA at hf
  split at hf
  · exact key _ he hf.1 hf.2
  · exact key _ he hf.1 hf.2
  · exact op_dIn hu pins s σ H x y v u Q I rx ry ⟨G, _, _, P, b, hd, he, hf, k⟩
theorem op_dNotInA (hu : X.A.units + 65 < cLine) : OpR X (compareOp .NotIn) (rG2 X.K dNotInA) := by
  intro pins s σ H x y v u Q I rx ry ⟨G, d, e, P, b, hd, he, hf, k⟩
  have key : ∀ c : D, RepB X.K G H c y → okK c d → P (.bl (!(lookD (pairsD c) d).isSome)) → wpAny (model X.prog X.w) X.A (compareOp .NotIn v u) (EP X pins σ Q) X.xe s := by
    intro c hc ho hf
    obtain ⟨a, o, rfl, hg, _, h1, h2⟩ := get_of b hc hd ho
    obtain rfl : u = Value.ref a := ry
    exact d_notIn (by omega) I hg rx fun s3 I3 => ⟨.bl (!o.isSome), H, I3, rfl, by rw [some_of h1 h2]; exact k _ _ _ _ hf (.refl b) (.bl _)⟩
  unfold dNotInA at hf
  split at hf
  · exact key _ he hf.1 hf.2
  · exact key _ he hf.1 hf.2
  · exact op_dNotIn hu pins s σ H x y v u Q I rx ry ⟨G, _, _, P, b, hd, he, hf, k⟩
/-! d.get(k), d.get(k, x) -/
def dGet : D → List D → M D
  | c, [k] => ask (okK c k) (ret ((lookD (pairsD c) k).getD .non))
  | c, [k, x] => ask (okK c k) (ret ((lookD (pairsD c) k).getD x))
  | _, _ => stuck
theorem okK_hasT {c k : D} (h : okK c k) : hasT "dict" c := by cases c <;> first | rfl | exact h.elim
/-- .. of frozen arguments -/
def rHM (K : PySem.W.Frag) (f : D → List D → M D) : V → List V → Hp → VK → Prop := fun x vs H Q => ∃ G d ds P, Ex G H ∧ RepB K G H d x ∧ RepL K G ds vs ∧ f d ds P ∧ ∀ r v G' H', P r → Gr G H G' H' → Rep K G' r v → Q v H'
theorem ge_bmG {T id : String} {name : Str} {apos cpos : Pos} {o e : Expr} {es : List Expr} {f : D → List D → M D} {m : EM} {ms : Env → M (List D)} (pa : PlainAttrs T) (slot : Slot T name id) (hty : typeOf (.builtin id) = pure (.type "method_descriptor")) (hm : MtR X id (rHM X.K f)) (ho : BE X o m) (ha : GA X (e :: es) ms)
    (hbase : attributeBase o name X.env (eval o X.env) = eval o X.env := by rfl)
    (hfew : ((backTo cpos (starEach (e :: es) X.env)).all (fun x => !x.1) && (backToKw cpos (keywordEach [] X.env)).all (fun x => x.1.isSome) && decide ((e :: es).length + ([] : List Keyword).length + (if ([] : List Keyword).isEmpty then 0 else 1) < 30)) = true := by rfl)
    (hline : (apos.endLine == cpos.line) = true := by rfl) (hs : starEach (e :: es) X.env = (false, eval e X.env) :: starEach es X.env := by rfl) (hpl : (backTo cpos (starEach es X.env)).any (·.1) = false := by rfl) :
    GE X (.Call (.Attribute o name apos) (e :: es) [] cpos) (eMeth T f m ms) := pe_imp (pe_bm pa slot hty hm ho ha hbase hfew hline hs hpl) fun σ H Q ⟨G0, H0, G, env, P, ok, hm, k⟩ =>
  ⟨G0, H0, G, env, _, ok, hm, fun d v G1 H1 ⟨ht, p⟩ r1 b1 => ⟨hasT_ty r1.b b1 ht, G0, H0, G1, env, _, ok.mono r1, p, fun ds vs G2 H2 p2 r2 b2 => ⟨G2, d, ds, P, r2.b, b1.mono r2, b2, p2, fun r v G3 H3 p3 r3 y => k r v G3 H3 p3 ((r1.trans r2).trans r3) y⟩⟩⟩
theorem m_get (hu : X.A.units + 65 < cLine) : MtR X "dict.get" (rHM X.K dGet) := by
  intro pins s σ H x vs v us Q I rx rv ⟨G, d, ds, P, b, hd, he, hf, k⟩
  unfold dGet at hf
  split at hf
  · cases he with
    | cons h he =>
      cases he
      obtain ⟨a, o, rfl, hg, _, h1, h2⟩ := get_of b hd (.rep h) hf.1
      obtain rfl : v = Value.ref a := rx
      cases rv with
      | cons r1 r2 =>
        cases r2
        refine d_get1 (by omega) I hg r1 fun w' s3 I3 rw' => ⟨_, H, I3, rw', ?_⟩
        have hf2 := hf.2
        cases e : lookD (pairsD d) _ with
        | none =>
          rw [h2 e]
          exact k _ _ _ _ (by rw [ret, e] at hf2; exact hf2) (.refl b) .non
        | some r =>
          obtain ⟨z, rfl, hz⟩ := h1 r e
          exact k _ _ _ _ (by rw [ret, e] at hf2; exact hf2) (.refl b) hz
  · cases he with
    | cons h he => cases he with
      | cons h' he =>
        cases he
        obtain ⟨a, o, rfl, hg, _, h1, h2⟩ := get_of b hd (.rep h) hf.1
        obtain rfl : v = Value.ref a := rx
        cases rv with
        | cons r1 r2 => cases r2 with
          | cons r2 r3 =>
            cases r3
            refine d_get2 (by omega) I hg r1 r2 fun w' s3 I3 rw' => ⟨_, H, I3, rw', ?_⟩
            have hf2 := hf.2
            cases e : lookD (pairsD d) _ with
            | none =>
              rw [h2 e]
              exact k _ _ _ _ (by rw [ret, e] at hf2; exact hf2) (.refl b) h'
            | some r =>
              obtain ⟨z, rfl, hz⟩ := h1 r e
              exact k _ _ _ _ (by rw [ret, e] at hf2; exact hf2) (.refl b) hz
  · exact hf.elim
/-! x[k] = v of an owned list or dict -/
def putD : D → D → D → M D
  | .lst ds, .int j, v => fun P => match ixD ds.length j with | some n => P (.lst (ds.set n v)) | none => False
  | .dK kvs, k, v => ask (okK (.dK kvs) k ∧ kvs.length < lim) (ret (.dK (putL kvs k v)))
  | .dT kvs, k, v => ask (okK (.dT kvs) k ∧ kvs.length < lim) (ret (.dT (putL kvs k v)))
  | _, _, _ => stuck
def rPut : V → V → V → Hp → (Hp → Prop) → Prop := fun o i v H Q => rSetL o i v H Q ∨ ∃ a H', o = .ref a ∧ DPut H a i v H' ∧ Q H'
theorem set_put (hu : X.A.units + 65 < cLine) : PSet X rPut := by
  intro pins s σ H o i v ov iv u Q I ro ri rv h
  rcases h with h | ⟨a, H', rfl, g, q⟩
  · exact set_list pins s σ H o i v ov iv u Q I ro ri rv h
  · obtain rfl : ov = Value.ref a := ro
    exact d_setItem (by omega) I g ri rv fun s' I' => ⟨H', I', q⟩
def sPut (i : Nat) (mk mv : EM) : SM := fun E env => mv env fun v => match getS env i with
  | .ow c => mk env fun k => putD c k v fun c' => E.nx (setS env i (.ow c'))
  | _ => False
theorem gs_put (i : Nat) {mk mv : EM} (h : PS X st (tAsg (tG X.K mv) (gSub (tVar i) (tG X.K mk) rPut))) : GS X st (sPut i mk mv) :=
  ps_imp h fun Dn σ H ⟨G0, H0, G, env, E, ok, q, k⟩ => ⟨G0, H0, G, env, _, ok, q, fun d v G1 H1 p r1 y => by
    have ok1 := ok.mono r1
    split at p
    · rename_i c e
      obtain ⟨a, hs, h0, hg, ho⟩ := ok1.ow e
      refine ⟨.ref a, hs, G0, H0, G1, env, _, ok1, p, fun kd kv G2 H2 p2 r2 y2 => ?_⟩
      have ok2 := ok1.mono r2
      obtain ⟨a', hs', h0', hg', ho'⟩ := ok2.ow e
      have : a' = a := by rw [hs] at hs'; cases hs'; rfl
      subst this
      have yv := y.mono r2.g
      cases ho' with
      | @lst ds vs hl hr =>
        cases kd <;> first | exact p2.elim | skip
        rename_i j
        cases y2
        simp only [putD] at p2
        split at p2
        · rename_i nn hn
          refine .inl ⟨a', vs, j, nn, rfl, rfl, hl, ?_, k.nx _ _ _ _ p2 (ok2.put e hs h0 hg' (.lst upd_same (hr.set _ yv)))⟩
          rw [← hr.len]; exact hn
        · exact p2.elim
      | @dK ks hs2 hl hr =>
        simp only [putD] at p2
        obtain ⟨⟨ho, hz⟩, p2⟩ := p2
        obtain ⟨kk, hkk⟩ := Option.isSome_iff_exists.mp ho
        have ek := keyK_eq hkk
        subst ek
        have hy := rep_key y2
        subst hy
        exact .inr ⟨a', _, rfl, .k hl (by rw [← hr.len]; exact lim_lt hz), k.nx _ _ _ _ p2 (ok2.put e hs h0 hg' (.dK upd_same (hr.put yv)))⟩
      | @dT ks hs2 hl hr =>
        simp only [putD] at p2
        obtain ⟨⟨ho, hz⟩, p2⟩ := p2
        cases kd <;> first | exact ho.elim | skip
        obtain ⟨kk, hkk⟩ := Option.isSome_iff_exists.mp ho
        have ek := keysK_eq hkk
        subst ek
        cases y2 with
        | tup h3 h4 =>
          have hu := rep_keys h4
          subst hu
          exact .inr ⟨a', _, rfl, .t hl (r2.b _ _ h3) (by rw [← hr.len]; exact lim_lt hz), k.nx _ _ _ _ p2 (ok2.put e hs h0 hg' (.dT upd_same (hr.put yv)))⟩
    · exact p.elim⟩
/-! x op= e at a name -/
def sAug (i : Nat) (f : D → D → M D) (m : EM) : SM := fun E env => match getS env i with
  | .fz d => m env fun e => f d e fun r => E.nx (setS env i (.fz r))
  | _ => False
theorem gs_aug (i : Nat) {f : D → D → M D} (h : PS X st (tAug i (tB X.K m) (rG2 X.K f))) : GS X st (sAug i f m) :=
  ps_imp h fun Dn σ H ⟨G0, H0, G, env, E, ok, q, k⟩ => by
    unfold sAug at q
    split at q
    · rename_i d e
      obtain ⟨v, hv, hr⟩ := ok.fz e
      exact ⟨v, hv, G0, H0, G, env, _, ok, q, fun d2 v2 G1 H1 p r1 b1 => ⟨G1, d, d2, _, r1.b, .rep (hr.mono r1.g), b1, p, fun r w G2 H2 p2 r2 y => k.nx _ _ _ _ p2 (((ok.mono r1).mono r2).set y)⟩⟩
    · exact q.elim
/-- += of ints, texts -/
def dIadd : D → D → M D
  | .int a, .int b => ret (.int (a + b))
  | .str a, .str b => ask (a.length + b.length ≤ lim) (ret (.str (a ++ b)))
  | _, _ => stuck
theorem iop_int : OpR X (inplaceOp .Add) (rG2 X.K dIadd) := by
  intro pins s σ H x y v u Q I rx ry ⟨G, d, e, P, b, hd, he, hf, k⟩
  unfold dIadd at hf
  split at hf
  · cases hd.int_inv
    cases he.int_inv
    exact iop_add pins s σ H _ _ v u Q I rx ry ⟨_, _, rfl, rfl, k _ _ _ _ hf (.refl b) (.int _)⟩
  · obtain ⟨rfl, h1⟩ := hd.str_inv
    obtain ⟨rfl, h2⟩ := he.str_inv
    obtain ⟨hl, hf⟩ := hf
    refine iop_add_str pins s σ H _ _ v u Q I rx ry ⟨_, _, rfl, rfl, lim_le ?_, ?_⟩
    · simpa [Str.length] using hl
    · have := k _ _ _ _ hf (.refl b) (.str _ (sOk_app h1 h2))
      rw [← List.append_toArray] at this
      exact this
  · exact hf.elim
theorem iop_sub : OpR X (inplaceOp .Sub) (rG2 X.K dSub) := by
  intro pins s σ H x y v u Q I rx ry ⟨G, d, e, P, b, hd, he, hf, k⟩
  unfold dSub at hf
  split at hf
  · cases hd.int_inv
    cases he.int_inv
    exact L2.iop_sub pins s σ H _ _ v u Q I rx ry ⟨_, _, rfl, rfl, k _ _ _ _ hf (.refl b) (.int _)⟩
  · exact hf.elim
/-- x += e, x an owned list, e a list -/
def sExt (i : Nat) (m : EM) : SM := fun E env => match getS env i with
  | .ow (.lst ds) => m env fun e => match e with | .lst es => ds.length + es.length ≤ lim ∧ E.nx (setS env i (.ow (.lst (ds ++ es)))) | _ => False
  | _ => False
theorem set_self {σ : L2.St} {i : Nat} {v : V} (h : σ[i]? = some (some v)) : σ.set i (some v) = σ := by
  obtain ⟨hl, he⟩ := List.getElem?_eq_some_iff.mp h
  apply List.ext_getElem?
  intro j
  by_cases hj : i = j
  · subst hj; rw [List.getElem?_set_self hl, h]
  · rw [List.getElem?_set_ne hj]
theorem gs_ext (i : Nat) (h : PS X st (tAug i (tB X.K m) rExt2)) : GS X st (sExt i m) :=
  ps_imp h fun Dn σ H ⟨G0, H0, G, env, E, ok, q, k⟩ => by
    unfold sExt at q
    split at q
    · rename_i ds e
      obtain ⟨a, hs, h0, hg, ho⟩ := ok.ow e
      cases ho with
      | lst hl hr =>
        refine ⟨.ref a, hs, G0, H0, G, env, _, ok, q, fun d v G1 H1 p r1 b1 => ?_⟩
        split at p
        · obtain ⟨c, us, rfl, h1, h2⟩ := b1.lst_inv r1.b
          have hl1 := r1.h _ _ hl
          have hg1 := r1.n a (by rw [hl]; exact fun z => nomatch z) hg
          refine ⟨a, c, _, us, rfl, rfl, hl1, h1, by rw [← hr.len, ← h2.len]; exact lim_le p.1, ?_⟩
          show Dn.nx (σ.set i (some (.ref a))) _
          rw [set_self hs]
          exact k.nx _ _ _ _ p.2 ((ok.mono r1).put e hs h0 hg1 (.lst upd_same ((hr.mono r1.g).app h2)))
        · exact p.elim
    · exact q.elim
/-! {}, {k: v, ..} -/
theorem fe_dK0 : FE X (.Dict [] [] pos) (fun _ P => P (.dK [])) := pe_imp pe_dnewK fun σ H Q ⟨G0, H0, G, env, P, ok, q, k⟩ p hp => k _ p G _ q (.newO ok.gr.b hp) hp (ok.gr.b.fresh hp) (.dK upd_same .nil)
theorem fe_dT0 : FE X (.Dict [] [] pos) (fun _ P => P (.dT [])) := pe_imp pe_dnewT fun σ H Q ⟨G0, H0, G, env, P, ok, q, k⟩ p hp => k _ p G _ q (.newO ok.gr.b hp) hp (ok.gr.b.fresh hp) (.dT upd_same .nil)

/-! {k: v, ..} -/
def pairsM : List (EM × EM) → Env → M (List (D × D))
  | [], _, P => P []
  | (a, b) :: r, env, P => a env fun x => b env fun y => pairsM r env fun kds => P ((x, y) :: kds)
def okDisp (kds : List (D × D)) : Bool := match keysK (kds.map (·.1)) with
  | some ks => decide ks.Nodup && decide (kds.length ≤ 15)
  | none => false
def eDict (ms : List (EM × EM)) : EM := fun env P => pairsM ms env fun kds => okDisp kds = true ∧ P (.dK kds)
def trsOf (K : PySem.W.Frag) (ms : List (EM × EM)) : List (TE × TE) := ms.map fun p => (tG K p.1, tG K p.2)
inductive RepP (K : PySem.W.Frag) (G : Hp) : List (D × D) → List (V × V) → Prop
  | nil : RepP K G [] []
  | cons {d e : D} {v w : V} {ds : List (D × D)} {vs : List (V × V)} (h : Rep K G d v) (h' : Rep K G e w) (r : RepP K G ds vs) : RepP K G ((d, e) :: ds) ((v, w) :: vs)
theorem pairs_sound {K : PySem.W.Frag} : ∀ (ms : List (EM × EM)) {G0 H0 G H : Hp} {σ : L2.St} {env : Env} {P : List (D × D) → Prop} {R : List (V × V) → Hp → Prop}, Ok K G0 H0 G H σ env → pairsM ms env P → (∀ kds ps G' H', P kds → Gr G H G' H' → RepP K G' kds ps → R ps H') → tPairs (trsOf K ms) σ H R
  | [], _, _, _, _, _, _, _, _, ok, q, k => k _ _ _ _ q (.refl ok.gr.b) .nil
  | (a, b) :: ms, G0, H0, G, H, σ, env, P, R, ok, q, k => ⟨G0, H0, G, env, _, ok, q, fun d v G1 H1 p r1 y1 => ⟨G0, H0, G1, env, _, ok.mono r1, p, fun e w G2 H2 p2 r2 y2 =>
      pairs_sound ms ((ok.mono r1).mono r2) p2 fun kds ps G3 H3 p3 r3 y3 => k _ _ G3 H3 p3 ((r1.trans r2).trans r3) (.cons ((y1.mono r2.g).mono r3.g) (y2.mono r3.g) y3)⟩⟩
theorem merge_app : ∀ (more acc : List (Key × V)), (more.map (·.1)).Nodup → (∀ k ∈ more.map (·.1), k ∉ acc.map (·.1)) → mergeK acc more = acc ++ more
  | [], acc, _, _ => by simp [mergeK]
  | p :: r, acc, hn, hd => by
    have e1 : putK acc p.1 p.2 = acc ++ [p] := by
      unfold putK
      rw [if_neg]
      intro z
      obtain ⟨q, hq, e⟩ := List.any_eq_true.mp z
      exact hd p.1 (by simp) (List.mem_map.mpr ⟨q, hq, of_decide_eq_true e⟩)
    have hn2 := List.nodup_cons.mp hn
    show mergeK (putK acc p.1 p.2) r = _
    rw [e1, merge_app r (acc ++ [p]) hn2.2 (fun k hk => by
      rw [List.map_append, List.mem_append]
      rintro (z | z)
      · exact hd k (by rw [List.map_cons]; exact List.mem_cons_of_mem _ hk) z
      · rw [List.map_singleton, List.mem_singleton] at z
        rw [z] at hk
        exact hn2.1 hk), List.append_assoc]
    rfl
theorem repP_keys {K : PySem.W.Frag} {G : Hp} : ∀ {kds : List (D × D)} {ps : List (V × V)} {ks : List Key}, RepP K G kds ps → keysK (kds.map (·.1)) = some ks → ∃ kvs : List (Key × V), ps = kvs.map (fun kv => (kV kv.1, kv.2)) ∧ kvs.map (·.1) = ks ∧ RepK K G kds kvs
  | _, _, ks, .nil, h => by cases h; exact ⟨[], rfl, rfl, .nil⟩
  | _, _, ks, .cons (d := d) (e := e) (v := v) (w := w) h h' r, hk => by
    rw [List.map_cons] at hk
    unfold keysK at hk
    split at hk
    · rename_i k ks' h1 h2
      cases hk
      obtain ⟨kvs, e1, e2, e3⟩ := repP_keys r h2
      have ed := keyK_eq h1
      have ed' : d = kD k := ed
      subst ed'
      have ev := rep_key h
      subst ev
      exact ⟨(k, w) :: kvs, by rw [e1]; rfl, by rw [List.map_cons, e2], .cons h' e3⟩
    · cases hk
theorem fe_disp {keys : List (Option Expr)} {values : List Expr} {ms : List (EM × EM)} (h : PPs X pos keys values (trsOf X.K ms)) (hall : keys.all (·.isSome) = true) (hl : keys.length = values.length) (h0 : keys ≠ []) (h15 : keys.length ≤ 15) : FE X (.Dict keys values pos) (eDict ms) :=
  pe_imp (pe_disp h hall hl h0 h15) fun σ H Q ⟨G0, H0, G, env, P, ok, q, k⟩ p hp => by
    have hg := ok.gr.b.fresh hp
    have ok1 : Ok X.K G0 H0 G (upd H p (.dK [])) σ env := ok.mono (.newO ok.gr.b hp)
    refine pairs_sound ms ok1 q fun kds ps G1 H1 ⟨ho, pp⟩ r1 y => ?_
    have hp1 : H1 p = some (.dK []) := r1.h _ _ upd_same
    have hg1 : G1 p = none := r1.n p (by rw [upd_same]; exact fun z => nomatch z) hg
    unfold okDisp at ho
    split at ho
    · rename_i ks hk
      rw [Bool.and_eq_true] at ho
      obtain ⟨kvs, e1, e2, e3⟩ := repP_keys y hk
      refine ⟨hp1, kvs, e1, by rw [← e3.len]; exact of_decide_eq_true ho.2, ?_⟩
      rw [merge_app kvs [] (by rw [e2]; exact of_decide_eq_true ho.1) (fun _ _ z => by cases z), List.nil_append]
      have e5 : ∀ a o, H a = some o → upd H1 p (.dK kvs) a = some o := fun a o e => by
        rw [upd_ne (ne_of_none e hp)]
        exact r1.h a o (by rw [upd_ne (ne_of_none e hp)]; exact e)
      exact k _ p G1 _ pp ⟨r1.g, e5, fun a o e => by rw [upd_ne (ne_of_none e hg1)]; exact r1.b a o e, fun a ha ga => r1.n a (by
        rw [upd_ne (fun z => ha (by rw [z]; exact hp))]; exact ha) ga⟩ hp hg1 (.dK upd_same e3)
    · cases ho
theorem ppsG_nil : PPs X pos [] [] (trsOf X.K []) := pps_nil
theorem ppsG_cons {k v : Expr} {ks : List (Option Expr)} {vs : List Expr} {a b : EM} {ms : List (EM × EM)} (hk : GE X k a) (hv : GE X v b) (hr : PPs X pos ks vs (trsOf X.K ms)) : PPs X pos (some k :: ks) (v :: vs) (trsOf X.K ((a, b) :: ms)) := pps_cons hk hv hr
/-! a, b = new things -/
def sParFG (i j : Nat) (m n : EM) : SM := fun E env => m env fun d => n env fun e => E.nx (setS (setS env i (.ow d)) j (.fz e))
def sParGF (i j : Nat) (m n : EM) : SM := fun E env => m env fun d => n env fun e => E.nx (setS (setS env i (.fz d)) j (.ow e))
def sParFF (i j : Nat) (m n : EM) : SM := fun E env => m env fun d => n env fun e => E.nx (setS (setS env i (.ow d)) j (.ow e))
theorem gs_parFG (i j : Nat) {m n : EM} (h : PS X st (tPar i j (tCons (tF X.K m) (tCons (tG X.K n) tNil)))) : GS X st (sParFG i j m n) := ps_imp h fun Dn σ H ⟨G0, H0, G, env, E, ok, q, k⟩ =>
  ⟨G0, H0, G, env, _, ok, q, fun d a G1 H1 p r1 h1 h2 h3 => ⟨G0, H0, G1, env, _, ok.mono r1, p, fun e w G2 H2 p2 r2 y => ⟨_, _, rfl, k.nx _ _ _ _ p2 ((ok.setN (r1.trans r2) h1 (r2.n a (h3.ne) h2) (h3.mono r2)).set y)⟩⟩⟩
theorem gs_parGF (i j : Nat) {m n : EM} (h : PS X st (tPar i j (tCons (tG X.K m) (tCons (tF X.K n) tNil)))) : GS X st (sParGF i j m n) := ps_imp h fun Dn σ H ⟨G0, H0, G, env, E, ok, q, k⟩ =>
  ⟨G0, H0, G, env, _, ok, q, fun d v G1 H1 p r1 y => ⟨G0, H0, G1, env, _, ok.mono r1, p, fun e a G2 H2 p2 r2 h1 h2 h3 => ⟨_, _, rfl, k.nx _ _ _ _ p2 (((ok.mono r1).set y).setN r2 h1 h2 h3)⟩⟩⟩
theorem gs_parFF (i j : Nat) {m n : EM} (h : PS X st (tPar i j (tCons (tF X.K m) (tCons (tF X.K n) tNil)))) : GS X st (sParFF i j m n) := ps_imp h fun Dn σ H ⟨G0, H0, G, env, E, ok, q, k⟩ =>
  ⟨G0, H0, G, env, _, ok, q, fun d a G1 H1 p r1 h1 h2 h3 => ⟨G0, H0, G1, env, _, ok.mono r1, p, fun e b G2 H2 p2 r2 y1 y2 y3 => ⟨_, _, rfl, k.nx _ _ _ _ p2 ((ok.setN r1 h1 h2 h3).setN r2 y1 y2 y3)⟩⟩⟩
/-! .. where a name is captured: by a pair that is made on the way -/
abbrev tPairC (K : PySem.W.Frag) (i j : Nat) (ta tb : TE) : TS := tAsg (tTup (tCons ta (tCons tb tNil))) (gTup K 2 (gCons (gName i) (gCons (gName j) gNil)))
theorem pairC {K : PySem.W.Frag} {i j : Nat} {x y : V} {H : Hp} {σ : L2.St} {Dn : Ends} (h : ∀ p, H p = none → Dn.nx ((σ.set i (some x)).set j (some y)) (upd H p (.tup [x, y]))) : [x, y].length ≤ sizeLine ∧ ∀ p, H p = none → gTup K 2 (gCons (gName i) (gCons (gName j) gNil)) (.ref p) σ (upd H p (.tup [x, y])) Dn.nx :=
  ⟨by show 2 ≤ sizeLine; decide, fun p hp => ⟨p, _, rfl, .of upd_same, rfl, x, [y], rfl, y, [], rfl, rfl, h p hp⟩⟩
theorem gs_parFGc (i j : Nat) {m n : EM} (h : PS X st (tPairC X.K i j (tF X.K m) (tG X.K n))) : GS X st (sParFG i j m n) := ps_imp h fun Dn σ H ⟨G0, H0, G, env, E, ok, q, k⟩ =>
  ⟨G0, H0, G, env, _, ok, q, fun d a G1 H1 p r1 h1 h2 h3 => ⟨G0, H0, G1, env, _, ok.mono r1, p, fun e w G2 H2 p2 r2 y => pairC fun q hq => k.nx _ _ _ _ p2 (((ok.setN (r1.trans r2) h1 (r2.n a (h3.ne) h2) (h3.mono r2)).set y).mono (.newO r2.b hq))⟩⟩
theorem gs_parGFc (i j : Nat) {m n : EM} (h : PS X st (tPairC X.K i j (tG X.K m) (tF X.K n))) : GS X st (sParGF i j m n) := ps_imp h fun Dn σ H ⟨G0, H0, G, env, E, ok, q, k⟩ =>
  ⟨G0, H0, G, env, _, ok, q, fun d v G1 H1 p r1 y => ⟨G0, H0, G1, env, _, ok.mono r1, p, fun e a G2 H2 p2 r2 h1 h2 h3 => pairC fun q hq => k.nx _ _ _ _ p2 ((((ok.mono r1).set y).setN r2 h1 h2 h3).mono (.newO r2.b hq))⟩⟩
theorem gs_parFFc (i j : Nat) {m n : EM} (h : PS X st (tPairC X.K i j (tF X.K m) (tF X.K n))) : GS X st (sParFF i j m n) := ps_imp h fun Dn σ H ⟨G0, H0, G, env, E, ok, q, k⟩ =>
  ⟨G0, H0, G, env, _, ok, q, fun d a G1 H1 p r1 h1 h2 h3 => ⟨G0, H0, G1, env, _, ok.mono r1, p, fun e b G2 H2 p2 r2 y1 y2 y3 => pairC fun q hq => k.nx _ _ _ _ p2 (((ok.setN r1 h1 h2 h3).setN r2 y1 y2 y3).mono (.newO r2.b hq))⟩⟩
theorem gs_parGGc (i j : Nat) {m n : EM} (h : PS X st (tPairC X.K i j (tG X.K m) (tG X.K n))) : GS X st (sPar i j (aCons m (aCons n aNil))) := ps_imp h fun Dn σ H ⟨G0, H0, G, env, E, ok, q, k⟩ =>
  ⟨G0, H0, G, env, _, ok, q, fun d v G1 H1 p r1 y => ⟨G0, H0, G1, env, _, ok.mono r1, p, fun e w G2 H2 p2 r2 y2 => pairC fun q hq => k.nx _ _ _ _ p2 ((((ok.mono (r1.trans r2)).set (y.mono r2.g)).set y2).mono (.newO r2.b hq))⟩⟩
end
end G
set_option Elab.async false
set_option linter.all false
set_option maxRecDepth 100000
namespace G
open PySem PySem.Spec PyProof.Rows L2

/-! ### a def by its mirror -/
def startE (n : Nat) (ds : List D) : Env := ds.map .fz ++ List.replicate (n - ds.length) .un
def fnM (np n : Nat) (S : SM) : List D → M D := fun ds P => ds.length = np ∧ S { nx := fun _ => P .non, rt := P, bk := fun _ => False, ct := fun _ => False } (startE n ds)
theorem start_ok {K : PySem.W.Frag} {G H : Hp} {N : List Str} {ds : List D} {vs : List V} (b : Ex G H) (r : RepL K G ds vs) (hl : vs.length ≤ N.length) : Ok K G H G H (L2.start N vs) (startE N.length ds) := by
  have hd := r.len
  refine ⟨.refl b, ?_, fun i s e => ?_, fun i j d e a e1 _ _ _ => ?_⟩
  · unfold L2.start startE
    rw [List.length_append, List.length_append, List.length_map, List.length_map, List.length_replicate, List.length_replicate, hd]
  · unfold startE at e
    unfold L2.start
    by_cases hi : i < ds.length
    · rw [List.getElem?_append_left (by rw [List.length_map]; exact hi), List.getElem?_map] at e
      rw [List.getElem?_append_left (by rw [List.length_map]; omega), List.getElem?_map]
      obtain ⟨d, hd2⟩ : ∃ d, ds[i]? = some d := ⟨_, List.getElem?_eq_getElem hi⟩
      obtain ⟨v, hv, hy⟩ := r.get hd2
      rw [hd2] at e
      rw [hv]
      cases e
      exact .fz hy
    · rw [List.getElem?_append_right (by rw [List.length_map]; omega)] at e
      obtain ⟨h1, h2⟩ := List.getElem?_eq_some_iff.mp e
      rw [List.getElem_replicate] at h2
      subst h2
      exact .un
  · unfold startE at e1
    by_cases hi : i < ds.length
    · rw [List.getElem?_append_left (by rw [List.length_map]; exact hi), List.getElem?_map] at e1
      cases hx : ds[i]? with
      | none => rw [hx] at e1; cases e1
      | some d => rw [hx] at e1; cases e1
    · rw [List.getElem?_append_right (by rw [List.length_map]; omega)] at e1
      obtain ⟨h1, h2⟩ := List.getElem?_eq_some_iff.mp e1
      rw [List.getElem_replicate] at h2
      cases h2
section
variable {P : Program} {w : World} {K : PySem.W.Frag} {mg : Str → Option Value} {base : Heap} {x qual : Str} {params : Arguments} {body : List Stmt} {scope : Scope} {f : Addr} {fd : FuncData}
theorem fn_ok {N ps : List Str} {k : Nat} {Sm : SM} (F : FunD K x qual params body scope [] [] f fd) (S : FnScope N ps scope) (np : Nat) (hn : ps.length = np)
    (hb : ∀ (cdv : Value) (A : Around) (outer : List PySem.Env) (s : Shared) (H : Hp) (E : XK), Room k (A.deeper (envOfC qual scope s.heap.objs.size f cdv)) → GSs (cxOf CX0 P w K mg base N qual scope f cdv A outer s H E).nox body Sm) : FnOk P w K mg base CX0 (k + 1) f fd ps (SpG K (fnM np N.length Sm)) := by
  have hNl : ps.length ≤ N.length := by
    have := congrArg List.length S.pre
    rw [List.length_take] at this
    omega
  refine F.ok S (fun vs H Q E ⟨G, ds, P, b, r, ⟨hl, _⟩, _⟩ => by rw [← r.len, hl, hn]) fun cdv A outer s H vs Q E hr ⟨G, ds, Pd, b, r, ⟨hl, hm⟩, k⟩ => ?_
  refine ⟨_, PSs.nox (hb cdv A outer s H E hr), G, H, G, _, _, start_ok b r (by rw [← r.len, hl, ← hn]; exact hNl), hm, ⟨fun env σ G' H' p o => k _ _ _ _ p o.gr .non, fun d v G' H' p g y => k _ _ _ _ p g y, fun _ _ _ _ p _ => p.elim, fun _ _ _ _ p _ => p.elim⟩⟩
end

/-! ### the cup -/
theorem cup_stay (a : Addr) : ∀ h1 h2 : Heap, cupφ a h1 → (∀ o, h1.get? a = some o → h2.get? a = some o) → cupφ a h2 := fun h1 h2 ⟨c, d, t, u, n, h⟩ k => ⟨c, d, t, u, n, h.1, h.2.1, h.2.2.1, h.2.2.2.1, k _ h.2.2.2.2⟩
/-- a cup's contents -/
def cupOk (c d : Int) : Prop := 0 ≤ c ∧ c.natAbs < 2 ^ 1050000 ∧ 0 ≤ d ∧ d < 2 ^ 32
/-- a promise about the list is a promise about the cup -/
def spCupL (f : Int → Int → List V → Hp → VK → Addr → Prop) : Sp := fun vs H Q _ => ∃ a c d, H a = some (.lst [.int c, .int d]) ∧ cupOk c d ∧ f c d vs H Q a
theorem cup_to {P : Program} {w : World} {H : Hp} {h : Heap} {a : Addr} (ok : HOk P w H h) (ha : H a = some (.ext (cupφ a))) : ∃ c d, cupOk c d ∧ HOk P w (upd H a (.lst [.int c, .int d])) h := by
  obtain ⟨⟨c, d, t, u, n, h1, h2, h3, h4, h5⟩, _, _⟩ := ok a _ ha
  refine ⟨c, d, ⟨h1, h2, h3, h4⟩, fun b o e => ?_⟩
  by_cases hb : b = a
  · subst hb
    rw [upd_same] at e
    cases e
    exact ⟨by show 2 ≤ sizeLine; decide, [.int c t, .int d u], n, .cons ⟨t, rfl⟩ (.cons ⟨u, rfl⟩ .nil), h5⟩
  · rw [upd_ne hb] at e
    exact (ok b o e).stay (fun _ _ _ q => q) (fun x e1 => by rw [upd_ne (fun z => by rw [z, ha] at e1; cases e1)]; exact e1) (fun x xs e1 => by rw [upd_ne (fun z => by rw [z, ha] at e1; cases e1)]; exact e1)
theorem cup_from {P : Program} {w : World} {H : Hp} {h : Heap} {a : Addr} {c d : Int} (ok : HOk P w H h) (ha : H a = some (.lst [.int c, .int d])) (hc : cupOk c d) : HOk P w (upd H a (.ext (cupφ a))) h := fun b o e => by
  by_cases hb : b = a
  · subst hb
    rw [upd_same] at e
    cases e
    obtain ⟨_, its, n, rv, h5⟩ := ok b _ ha
    cases rv with
    | cons r1 rv => cases rv with
      | cons r2 rv =>
        cases rv
        obtain ⟨t, rfl⟩ := r1
        obtain ⟨u, rfl⟩ := r2
        exact ⟨⟨c, d, t, u, n, hc.1, hc.2.1, hc.2.2.1, hc.2.2.2, h5⟩, ⟨_, h5⟩, cup_stay b⟩
  · rw [upd_ne hb] at e
    exact (ok b o e).stay (fun _ _ _ q => q) (fun x e1 => by rw [upd_ne (fun z => by rw [z, ha] at e1; cases e1)]; exact e1) (fun x xs e1 => by rw [upd_ne (fun z => by rw [z, ha] at e1; cases e1)]; exact e1)
/-- tracked things of one address change their description alone -/
theorem un_in {fs ex : List Addr} {H H1 : Hp} {h h1 : Heap} {a : Addr} {o u : HO} (ha : H a = some o) (hu : ∀ xs, u ≠ .tup xs) (hf : ∀ ob x, u ≠ .frz ob x) (ht : ∀ ps, u ≠ .tbl ps) (ho : ∀ xs, o ≠ .tup xs) (hf2 : ∀ ob x, o ≠ .frz ob x) (ht2 : ∀ ps, o ≠ .tbl ps) (n : Un fs ex (upd H a u) H1 h h1) : Un fs ex H H1 h h1 := by
  have nn : ∀ b, H b = none → upd H a u b = none := fun b e => by rw [upd_ne (fun z => by rw [z, ha] at e; cases e)]; exact e
  have nd : ∀ b ob, H b = some ob → ob ≠ o → upd H a u b = some ob := fun b ob e z => by rw [upd_ne (fun y => by subst y; rw [ha] at e; cases e; exact z rfl)]; exact e
  exact ⟨fun b ob e e1 => n.keep b ob e (nn b e1), fun b ob e e1 => n.slot b ob e (nn b e1), fun b ob e e1 => n.free b ob e (nn b e1), n.there, fun b xs e => n.tups b xs (nd b _ e fun z => ho xs z.symm), fun b ob x e => n.frzs b ob x (nd b _ e fun z => hf2 ob x z.symm), fun b ps e => n.tbls b ps (nd b _ e fun z => ht2 ps z.symm)⟩
theorem un_out {fs ex : List Addr} {H H1 : Hp} {h h1 : Heap} {a : Addr} {o u : HO} (ha : H1 a = some o) (ho : ∀ xs, o ≠ .tup xs) (hf2 : ∀ ob x, o ≠ .frz ob x) (ht2 : ∀ ps, o ≠ .tbl ps) (n : Un fs ex H H1 h h1) : Un fs ex H (upd H1 a u) h h1 := by
  have nd : ∀ b ob, H1 b = some ob → ob ≠ o → upd H1 a u b = some ob := fun b ob e z => by rw [upd_ne (fun y => by subst y; rw [ha] at e; cases e; exact z rfl)]; exact e
  exact ⟨n.keep, n.slot, fun b ob e e1 e2 => by
    have q := n.free b ob e e1 e2
    rw [upd_ne (fun z => by rw [z, ha] at q; cases q)]; exact q, n.there, fun b xs e => nd b _ (n.tups b xs e) fun z => ho xs z.symm, fun b ob x e => nd b _ (n.frzs b ob x e) fun z => hf2 ob x z.symm, fun b ps e => by
    obtain ⟨more, e1⟩ := n.tbls b ps e
    exact ⟨more, nd b _ e1 fun z => ht2 _ z.symm⟩⟩
section
variable {P : Program} {w : World} {K : PySem.W.Frag} {mg : Str → Option Value} {base : Heap} {f : Addr} {fd : FuncData} {ps : List Str} {k : Nat}
/-- what a draw's def keeps of the list -/
def spRollL : Sp := fun vs H Q _ => ∃ a c d n, vs = [.ref a, .int n] ∧ H a = some (.lst [.int c, .int d]) ∧ cupOk c d ∧ (0 < n ∧ n < 1073741824) ∧ ∀ r c' d', 0 ≤ r → r < n → cupOk c' d' → Q (.int r) (upd H a (.lst [.int c', .int d']))
def dRoll : List D → M D
  | [.cup, .int n] => fun P => (0 < n ∧ n < 1073741824) ∧ ∀ r, 0 ≤ r → r < n → P (.int r)
  | _ => stuck
theorem roll_ok (F : FnOk P w K mg base CX0 k f fd ps spRollL) (hps : ps.length = 2) : FnOk P w K mg base CX0 k f fd ps (SpG K dRoll) := by
  refine ⟨fun vs H Q E ⟨G, ds, Pd, b, r, hm, _⟩ => ?_, fun A outer s H args us vs Q E hr he hb rv ⟨G, ds, Pd, b, r, hm, kk⟩ => ?_⟩
  · unfold dRoll at hm
    split at hm
    · rw [← r.len, hps]; rfl
    · exact hm.elim
  · unfold dRoll at hm
    split at hm
    · cases r with
      | cons h1 r => cases r with
        | cons h2 r =>
          cases r
          cases h2
          cases h1 with
          | @cup a ha =>
            have hH := b _ _ ha
            obtain ⟨c, d, hc, hok⟩ := cup_to he.hok hH
            have he2 : Env0 P w K mg base A outer s (upd H a (.lst [.int c, .int d])) := ⟨he.frames, he.mod, fun b o e => ⟨(he.bs b o e).1, by
                have e1 := (he.bs b o e).2
                rw [upd_ne (fun z => by rw [z, hH] at e1; cases e1)]; exact e1⟩, he.bsz, he.funs, fun b hb => by
                have e1 := he.frf b hb
                rw [upd_ne (fun z => by rw [z, hH] at e1; cases e1)]; exact e1, hok, he.bare⟩
            refine codeAny_mono (F.run A outer s _ args us _ (fun v H' => ∃ r c' d', v = .int r ∧ 0 ≤ r ∧ r < _ ∧ cupOk c' d' ∧ H' = upd (upd H a (.lst [.int c, .int d])) a (.lst [.int c', .int d'])) E hr he2 hb rv ⟨a, c, d, _, rfl, upd_same, hc, hm.1, fun r c' d' h0 h1 h2 => ⟨r, c', d', rfl, h0, h1, h2, rfl⟩⟩) fun r s' hq => ?_
            cases r with
            | error e => exact hq
            | ok fl =>
              cases fl with
              | next => exact hq
              | brk => exact hq
              | cont => exact hq
              | ret u =>
                obtain ⟨v, H', ho, hg, un, hk2, rr, r, c', d', rfl, h0, h1, h2, rfl⟩ := hq
                rw [upd_upd] at un hk2
                have hk3 := cup_from hk2 upd_same h2
                rw [upd_upd] at hk3
                have eH : upd H a (.ext (cupφ a)) = H := by
                  funext x
                  by_cases hx : x = a
                  · subst hx; rw [upd_same, hH]
                  · rw [upd_ne hx]
                have un1 := un_in hH (by intro _ z; cases z) (by intro _ _ z; cases z) (by intro _ z; cases z) (by intro _ z; cases z) (by intro _ _ z; cases z) (by intro _ z; cases z) un
                have un2 := un_out (u := .ext (cupφ a)) (a := a) upd_same (by intro _ z; cases z) (by intro _ _ z; cases z) (by intro _ z; cases z) un1
                rw [upd_upd, eH] at un2
                rw [eH] at hk3
                exact ⟨.int r, H, ho, hg, un2, hk3, rr, kk _ _ G H (hm.2 r h0 h1) (.refl b) (.int _)⟩
    · exact hm.elim
end
end G
set_option Elab.async false
set_option linter.all false
set_option maxRecDepth 100000
set_option exponentiation.threshold 300
namespace G
open PySem PySem.Spec PyProof.Rows L2

/-! ### a draw, read -/
abbrev qInt : List V → Hp → VK → Prop := fun xs H Q => (∃ i, xs = [.int i] ∧ Q (.int i) H) ∨ ∃ k, xs = [.bl k] ∧ Q (.int (if k then 1 else 0)) H
abbrev qGt : R2 := rI0 fun i j => .bl (decide (j < i))
abbrev qGe : R2 := rI0 fun i j => .bl (decide (j ≤ i))
abbrev qAdd : R2 := rI0 fun i j => .int (i + j)
abbrev qMul : R2 := rI CMul fun i j => .int (i * j)
abbrev qMod : R2 := rI (fun _ j => 0 < j) fun i j => .int (i % j)
abbrev qDiv : R2 := rI CDiv fun i j => .int (i / j)
def atC (K : PySem.W.Frag) (j : Int) : TE := tOp (rIxL K) (tVar 0) (tC (.int j))
def rollT (K : PySem.W.Frag) (A B M C M2 E : Int) : TS :=
  tSeq (tIfS (tTest (tOp qGt (atC K 0) (tC (.int 0))))
    (tSeq (tAsg (tOp qMod (tCB qInt (tCons (atC K 0) tNil)) (tVar 1)) (gName 2)) (tSeq (tAsg (tOp qDiv (atC K 0) (tVar 1)) (gSub (tVar 0) (tC (.int 0)) rSetL)) (tRet (tVar 2)))) tNext)
  (tSeq (tAsg (tOp qMod (tCB qInt (tCons (tOp qAdd (tOp qMul (atC K 1) (tC (.int A))) (tC (.int B))) tNil)) (tC (.int M))) (gSub (tVar 0) (tC (.int 1)) rSetL))
  (tSeq (tAsg (tOp qMod (tCB qInt (tCons (tOp qMul (atC K 1) (tOp qAdd (atC K 1) (tC (.int C)))) tNil)) (tC (.int M2))) (gName 3))
  (tRet (tOp qMod (tCB qInt (tCons (tOp qDiv (tVar 3) (tC (.int E))) tNil)) (tVar 1)))))
theorem atC_ok {K : PySem.W.Frag} {σ : L2.St} {H : Hp} {Q : VK} {a : Addr} {c d : Int} (hs : σ[0]? = some (some (.ref a))) (h : H a = some (.lst [.int c, .int d])) : (Q (.int c) H → atC K 0 σ H Q) ∧ (Q (.int d) H → atC K 1 σ H Q) :=
  ⟨fun q => ⟨_, hs, a, _, 0, .int c, rfl, rfl, .of h, rfl, q⟩, fun q => ⟨_, hs, a, _, 1, .int d, rfl, rfl, .of h, rfl, q⟩⟩
theorem roll_read {K : PySem.W.Frag} {A B M C M2 E : Int} (hA : -(2 ^ 64) < A ∧ A < 2 ^ 64) (hM : 0 < M ∧ M < 2 ^ 32) (hM2 : 0 < M2) (hE : 0 < E ∧ E < 1073741824) {vs : List V} {H : Hp} {Q : VK} {X : XK} (h : spRollL vs H Q X) :
    rollT K A B M C M2 E { nx := fun _ H' => Q .non H', rt := Q } (L2.start ["cup", "many", "found", "deep"] vs) H := by
  obtain ⟨a, c, d, n, rfl, ha, hc, hn, k⟩ := h
  have hs : (L2.start ["cup", "many", "found", "deep"] [V.ref a, V.int n])[0]? = some (some (V.ref a)) := rfl
  show tTest (tOp qGt (atC K 0) (tC (.int 0))) _ _ _
  refine (atC_ok hs ha).1 ⟨c, 0, rfl, rfl, _, rfl, ?_⟩
  by_cases h0 : 0 < c
  · rw [decide_eq_true h0]
    refine iteT ?_
    refine (atC_ok hs ha).1 (.inl ⟨c, rfl, .int n, rfl, c, n, rfl, rfl, hn.1, ?_⟩)
    have hs2 : ((L2.start ["cup", "many", "found", "deep"] [V.ref a, V.int n]).set 2 (some (V.int (c % n))))[0]? = some (some (V.ref a)) := rfl
    refine (atC_ok hs2 ha).1 ⟨.int n, rfl, c, n, rfl, rfl, hn, .ref a, hs2, a, _, 0, 0, rfl, rfl, ha, rfl, ?_⟩
    refine ⟨.int (c % n), rfl, ?_⟩
    refine k (c % n) (c / n) d (Int.emod_nonneg _ (by omega)) (Int.emod_lt_of_pos _ hn.1) ⟨Int.ediv_nonneg hc.1 (by omega), ?_, hc.2.2.1, hc.2.2.2⟩
    have := hc.2.1
    have h1 : (c / n).natAbs ≤ c.natAbs := Int.natAbs_ediv_le_natAbs c n
    omega
  · rw [decide_eq_false h0]
    refine iteF ?_
    refine (atC_ok hs ha).2 ⟨d, A, rfl, rfl, .inr hA, d * A, B, rfl, rfl, .inl ⟨_, rfl, _, M, rfl, rfl, hM.1, .ref a, hs, a, _, 1, 1, rfl, rfl, ha, rfl, ?_⟩⟩
    have e1 : upd H a (HO.lst ([V.int c, V.int d].set 1 (V.int ((d * A + B) % M)))) a = some (.lst [.int c, .int ((d * A + B) % M)]) := upd_same
    have l1 := Int.emod_nonneg (d * A + B) (show M ≠ 0 by omega)
    have l2 := Int.emod_lt_of_pos (d * A + B) hM.1
    refine (atC_ok hs e1).2 ((atC_ok hs e1).2 ⟨_, C, rfl, rfl, _, _, rfl, rfl, .inl ⟨by omega, by omega⟩, .inl ⟨_, rfl, _, M2, rfl, rfl, hM2, ?_⟩⟩)
    refine ⟨_, rfl, _, E, rfl, rfl, hE, .inl ⟨_, rfl, .int n, rfl, _, n, rfl, rfl, hn.1, ?_⟩⟩
    exact k _ c _ (Int.emod_nonneg _ (by omega)) (Int.emod_lt_of_pos _ hn.1) ⟨hc.1, hc.2.1, l1, by omega⟩

/-! ### the cup, made -/
/-- the cup's def: from the script -/
def spCup (K : PySem.W.Frag) : Sp := fun vs H Q _ => ∃ (a : Addr) (ns : List Int), vs = [.ref a] ∧ SqL K H a (ns.map V.int) ∧ ns.length ≤ 1000 ∧ (∀ n ∈ ns, n.natAbs < 2 ^ 1049000) ∧ ∀ c d p H', cupOk c d → (∀ b o, H b = some o → H' b = some o) → H p = none → H' p = some (.lst [.int c, .int d]) → Q (.ref p) H'
abbrev qList (K : PySem.W.Frag) : List V → Hp → VK → Prop := fun xs H Q => ∃ p ys, xs = [.ref p] ∧ (SqL K H p ys ∨ SqT K H p ys) ∧ ∀ l, H l = none → Q (.ref l) (upd H l (.lst ys))
abbrev qAbs : List V → Hp → VK → Prop := fun xs H Q => ∃ i, xs = [.int i] ∧ Q (.int (if i < 0 then -i else i)) H
def cupT (K : PySem.W.Frag) (E A B M C : Int) : TS :=
  tSeq (tAsg (tCB qAbs (tCons (tOp (rIxL K) (tOp rCat (tCB (qList K) (tCons (tVar 0) tNil)) (tLst (tCons (tC (.int 0)) tNil))) (tC (.int 0))) tNil)) (gName 1))
  (tRet (tLst (tCons (tIf (tTest (tOp qGe (tVar 1) (tOp (rI CPow fun i j => .int (i ^ j.toNat)) (tC (.int 10)) (tC (.int 18))))) (tOp qDiv (tVar 1) (tC (.int E))) (tC (.int 0)))
    (tCons (tOp qAdd (tOp qMod (tCB qInt (tCons (tOp qAdd (tOp qMul (tVar 1) (tC (.int A))) (tC (.int B))) tNil)) (tC (.int M))) (tC (.int C))) tNil))))
theorem cup_read {K : PySem.W.Frag} {E A B M C : Int} (hE : 0 < E ∧ E < 1073741824) (hA : -(2 ^ 64) < A ∧ A < 2 ^ 64) (hM : 0 < M ∧ 0 ≤ C ∧ M + C < 2 ^ 32) {vs : List V} {H : Hp} {Q : VK} {X : XK} (h : spCup K vs H Q X) :
    cupT K E A B M C { nx := fun _ H' => Q .non H', rt := Q } (L2.start ["script", "cell"] vs) H := by
  obtain ⟨a, ns, rfl, ha, hl, hz, k⟩ := h
  refine ⟨_, rfl, a, _, rfl, .inl ha, fun l hl0 => ⟨by decide, fun q hq => ?_⟩⟩
  have hql : q ≠ l := fun z => by rw [z, upd_same] at hq; cases hq
  have hHq : H q = none := by rw [upd_ne hql] at hq; exact hq
  refine ⟨l, q, _, _, rfl, rfl, by rw [upd_ne (Ne.symm hql), upd_same], upd_same, ?_, fun r hr => ?_⟩
  · rw [List.length_map]; show ns.length + 1 ≤ sizeLine
    have : (1001 : Nat) ≤ sizeLine := by decide
    omega
  have hcell : ∃ x : Int, L2.atI (ns.map V.int ++ [V.int 0]) 0 = some (.int x) ∧ x.natAbs < 2 ^ 1049000 := by
    cases ns with
    | nil => exact ⟨0, rfl, Nat.two_pow_pos _⟩
    | cons n r => exact ⟨n, atI_nat (j := 0) rfl, hz n List.mem_cons_self⟩
  obtain ⟨x, hx, hxz⟩ := hcell
  refine ⟨r, _, 0, .int x, rfl, rfl, .of upd_same, hx, x, rfl, ?_⟩
  have hax : 0 ≤ (if x < 0 then -x else x) ∧ (if x < 0 then -x else x).natAbs < 2 ^ 1049000 := by
    split <;> constructor <;> omega
  generalize (if x < 0 then -x else x) = y at hax
  have fin : ∀ c : Int, 0 ≤ c → c.natAbs < 2 ^ 1050000 → tCons (tOp qAdd (tOp qMod (tCB qInt (tCons (tOp qAdd (tOp qMul (tVar 1) (tC (.int A))) (tC (.int B))) tNil)) (tC (.int M))) (tC (.int C))) tNil
      ((L2.start ["script", "cell"] [V.ref a]).set 1 (some (V.int y))) (upd (upd (upd H l (.lst (ns.map V.int))) q (.lst [V.int 0])) r (.lst (ns.map V.int ++ [V.int 0])))
      (fun xs H1 => (V.int c :: xs).length ≤ sizeLine ∧ ∀ p, H1 p = none → Q (.ref p) (upd H1 p (.lst (V.int c :: xs)))) := by
    intro c h0 h1
    refine ⟨.int y, rfl, y, A, rfl, rfl, .inr hA, _, B, rfl, rfl, .inl ⟨_, rfl, _, M, rfl, rfl, hM.1, _, C, rfl, rfl, by show 2 ≤ sizeLine; decide, fun p hp => ?_⟩⟩
    have l1 := Int.emod_nonneg (y * A + B) (show M ≠ 0 by omega)
    have l2 := Int.emod_lt_of_pos (y * A + B) hM.1
    have e1 : ∀ b o, H b = some o → upd H l (.lst (ns.map V.int)) b = some o := fun b o e => by rw [upd_ne (ne_of_none e hl0)]; exact e
    have e2 : ∀ b o, H b = some o → upd (upd H l (.lst (ns.map V.int))) q (.lst [V.int 0]) b = some o := fun b o e => by rw [upd_ne (ne_of_none (e1 b o e) hq)]; exact e1 b o e
    have e3 : ∀ b o, H b = some o → upd (upd (upd H l (.lst (ns.map V.int))) q (.lst [V.int 0])) r (.lst (ns.map V.int ++ [V.int 0])) b = some o := fun b o e => by rw [upd_ne (ne_of_none (e2 b o e) hr)]; exact e2 b o e
    refine k c _ p _ ⟨h0, h1, by omega, by omega⟩ (fun b o e => by rw [upd_ne (ne_of_none (e3 b o e) hp)]; exact e3 b o e) ?_ upd_same
    cases hHp : H p with
    | none => rfl
    | some o => rw [e3 p o hHp] at hp; cases hp
  refine ⟨.int y, rfl, 10, 18, rfl, rfl, ⟨by decide, by decide, by decide⟩, y, _, rfl, rfl, _, rfl, ?_⟩
  by_cases hg : (10 : Int) ^ (18 : Int).toNat ≤ y
  · rw [decide_eq_true hg]
    refine iteT ?_
    refine ⟨.int y, rfl, y, E, rfl, rfl, hE, fin _ (Int.ediv_nonneg hax.1 (by omega)) ?_⟩
    have h1 : (y / E).natAbs ≤ y.natAbs := Int.natAbs_ediv_le_natAbs y E
    have h2 : (2 : Nat) ^ 1049000 ≤ 2 ^ 1050000 := Nat.pow_le_pow_right (by decide) (by decide)
    omega
  · rw [decide_eq_false hg]
    refine iteF ?_
    exact fin 0 (Int.le_refl _) (Nat.two_pow_pos _)
section
variable {P : Program} {w : World} {K : PySem.W.Frag} {mg : Str → Option Value} {base : Heap} {f : Addr} {fd : FuncData} {ps : List Str} {k : Nat}
/-- the cup of a script -/
def dCup : List D → M D
  | [.scr ns] => fun P => (ns.length ≤ 1000 ∧ ∀ n ∈ ns, n.natAbs < 2 ^ 1049000) ∧ P .cup
  | _ => stuck
theorem cup_ok (F : FnOk P w K mg base CX0 k f fd ps (spCup K)) (hps : ps.length = 1) : FnOk P w K mg base CX0 k f fd ps (SpG K dCup) := by
  refine ⟨fun vs H Q E ⟨G, ds, Pd, b, r, hm, _⟩ => ?_, fun A outer s H args us vs Q E hr he hb rv ⟨G, ds, Pd, b, r, hm, kk⟩ => ?_⟩
  · unfold dCup at hm
    split at hm
    · rw [← r.len, hps]; rfl
    · exact hm.elim
  · unfold dCup at hm
    split at hm
    · cases r with
      | cons h1 r =>
        cases r
        cases h1 with
        | @scr ns a ha =>
          refine codeAny_mono (F.run A outer s H args us _ (fun v H' => ∃ c d p, v = .ref p ∧ cupOk c d ∧ (∀ b o, H b = some o → H' b = some o) ∧ H p = none ∧ H' p = some (.lst [.int c, .int d])) E hr he hb rv ⟨a, _, rfl, ex_l b ha, hm.1.1, hm.1.2, fun c d p H' hc e hp hq => ⟨c, d, p, rfl, hc, e, hp, hq⟩⟩) fun r s' hq => ?_
          cases r with
          | error e => exact hq
          | ok fl =>
            cases fl with
            | next => exact hq
            | brk => exact hq
            | cont => exact hq
            | ret u =>
              obtain ⟨v, H', ho, hg, un, hk2, rr, c, d, p, rfl, hc, e, hp, hq⟩ := hq
              have hk3 := cup_from hk2 hq hc
              have un2 := un_out (u := .ext (cupφ p)) hq (by intro _ z; cases z) (by intro _ _ z; cases z) (by intro _ z; cases z) un
              refine ⟨.ref p, _, ho, hg, un2, hk3, rr, kk .cup _ (upd G p (.ext (cupφ p))) _ hm.2 ⟨.new (b.fresh hp), fun x o q => ?_, fun x o q => ?_, fun x hx gx => ?_⟩ (.cup upd_same)⟩
              · rw [upd_ne (ne_of_none q hp)]; exact e x o q
              · by_cases hx : x = p
                · subst hx; rw [upd_same] at q ⊢; exact q
                · rw [upd_ne hx] at q ⊢; exact e x o (b x o q)
              · rw [upd_ne (fun z => hx (by rw [z]; exact hp))]; exact gx
    · exact hm.elim
end
end G
set_option Elab.async false
set_option linter.all false
set_option maxRecDepth 100000
namespace G
open PySem PySem.Spec PyProof.Rows L2

/-! ### constants of the top -/
mutual
def repV (K : PySem.W.Frag) : Nat → D → Value → Bool
  | _, .non, .none => true
  | _, .bl a, .bool b => a == b
  | _, .int i, .int j _ => i == j
  | _, .str s, .str x _ => decide (x.cps.toList = s) && sOk s
  | n + 1, .kt ds, .ref a => (match K.lookup a with
    | some ⟨.type c, _, .seq its _, _⟩ => decide (c = "tuple") && (decide (its.size ≤ sizeLine) && repVs K n ds its.toList)
    | _ => false)
  | _, _, _ => false
def repVs (K : PySem.W.Frag) : Nat → List D → List Value → Bool
  | _, [], [] => true
  | n + 1, d :: ds, v :: vs => repV K n d v && repVs K n ds vs
  | _, _, _ => false
end
theorem str_rep {K : PySem.W.Frag} {G : Hp} {s : List Nat} {x : Str} (e : x.cps.toList = s) (h : sOk s = true) : Rep K G (.str s) (.str x) := by
  have e2 : x = ⟨s.toArray⟩ := by cases x; rw [← e]
  rw [e2]; exact .str _ h
theorem repV_ok {K : PySem.W.Frag} : ∀ (n : Nat), (∀ (d : D) (u : Value), repV K n d u = true → ∃ v, RelV v u ∧ ∀ G, Rep K G d v) ∧ (∀ (ds : List D) (us : List Value), repVs K n ds us = true → ∃ vs, Vals vs us ∧ ∀ G, RepL K G ds vs) := by
  intro n
  induction n with
  | zero =>
    refine ⟨fun d u h => ?_, fun ds us h => ?_⟩
    · unfold repV at h
      split at h
      · exact ⟨.non, rfl, fun _ => .non⟩
      · rw [beq_iff_eq.mp h]; exact ⟨.bl _, rfl, fun _ => .bl _⟩
      · rw [beq_iff_eq.mp h]; exact ⟨.int _, ⟨_, rfl⟩, fun _ => .int _⟩
      · rw [Bool.and_eq_true] at h
        have e := of_decide_eq_true h.1
        exact ⟨.str _, ⟨_, rfl⟩, fun _ => str_rep e h.2⟩
      · rename_i e; cases e
      · cases h
    · unfold repVs at h
      split at h
      · exact ⟨[], .nil, fun _ => .nil⟩
      · rename_i e; cases e
      · cases h
  | succ n ih =>
    refine ⟨fun d u h => ?_, fun ds us h => ?_⟩
    · unfold repV at h
      split at h
      · exact ⟨.non, rfl, fun _ => .non⟩
      · rw [beq_iff_eq.mp h]; exact ⟨.bl _, rfl, fun _ => .bl _⟩
      · rw [beq_iff_eq.mp h]; exact ⟨.int _, ⟨_, rfl⟩, fun _ => .int _⟩
      · rw [Bool.and_eq_true] at h
        have e := of_decide_eq_true h.1
        exact ⟨.str _, ⟨_, rfl⟩, fun _ => str_rep e h.2⟩
      · rename_i m ds a e
        cases e
        split at h
        · rename_i c dd its k sl hl
          rw [Bool.and_eq_true, Bool.and_eq_true] at h
          obtain ⟨vs, h1, h2⟩ := ih.2 _ _ h.2.2
          have ec := of_decide_eq_true h.1
          subst ec
          exact ⟨.ref a, rfl, fun G => .kt (.inr ⟨_, its, k, hl, rfl, rfl, of_decide_eq_true h.2.1, h1⟩) (h2 G)⟩
        · cases h
      · cases h
    · unfold repVs at h
      split at h
      · exact ⟨[], .nil, fun _ => .nil⟩
      · rename_i m d ds v vs e
        cases e
        rw [Bool.and_eq_true] at h
        obtain ⟨w, h1, h2⟩ := ih.1 _ _ h.1
        obtain ⟨ws, h3, h4⟩ := ih.2 _ _ h.2
        exact ⟨w :: ws, .cons h1 h3, fun G => .cons (h2 G) (h4 G)⟩
      · cases h
/-- a module's constant -/
def cstB (K : PySem.W.Frag) (p : Str × D) : Bool := match PySem.W.nsIn K mainGlobals p.1 with
  | some (some u) => repV K 40 p.2 u
  | _ => false
structure Gc (K : PySem.W.Frag) (mg : Str → Option Value) (x : Str) (d : D) : Prop where
  ex : ∃ u v, mg x = some u ∧ RelV v u ∧ ∀ G, Rep K G d v
theorem cst_ok {K : PySem.W.Frag} {h : Heap} {mg : Str → Option Value} (X : K.In h) (N : h.Ns mainGlobals mg) {p : Str × D} (c : cstB K p = true) : Gc K mg p.1 p.2 := by
  unfold cstB at c
  split at c
  · rename_i u hu
    obtain ⟨v, h1, h2⟩ := (repV_ok 40).1 _ _ c
    exact ⟨u, v, PySem.W.mg_of X N hu, h1, h2⟩
  · cases c
theorem ge_gc {X : Cx} {x : Str} {d : D} {pos : Pos} (c : Gc X.K X.mg x d) (hg : Gl X x := by rfl) (hd : (x == ("__debug__" : Str)) = false := by decide) : GE X (.Name x pos) (eC d) := by
  obtain ⟨u, v, h1, h2, h3⟩ := c.ex
  exact ge_glob hg h1 h2 h3 hd
/-! ### a def, for its callers -/
structure Fd (P : Program) (w : World) (K : PySem.W.Frag) (mg : Str → Option Value) (base : Heap) (x : Str) (k : Nat) (m : List D → M D) : Prop where
  ex : ∃ f fd ps, FnOk P w K mg base CX0 k f fd ps (SpG K m) ∧ mg x = some (.ref f) ∧ PySem.W.keepIn K (.ref f) = true ∧ Binds K fd ps []
theorem Fd.mono {P : Program} {w : World} {K : PySem.W.Frag} {mg : Str → Option Value} {base : Heap} {x : Str} {j k : Nat} {m : List D → M D} (F : Fd P w K mg base x j m) (h : j ≤ k) : Fd P w K mg base x k m := by
  obtain ⟨f, fd, ps, h1, h2, h3, h4⟩ := F.ex
  exact ⟨f, fd, ps, h1.mono h, h2, h3, h4⟩
theorem ge_f {X : Cx} {e : Expr} {es : List Expr} {ms : Env → M (List D)} {pos p : Pos} {k : Nat} {mf : List D → M D} {x : Str} (F : Fd X.prog X.w X.K X.mg X.base x k mf) (hr : Room k X.A) (ha : GA X (e :: es) ms)
    (hg : Gl X x := by rfl) (hdb : (x == ("__debug__" : Str)) = false := by decide) (he : starEach (e :: es) X.env = (false, eval e X.env) :: starEach es X.env := by rfl) (hpl : (backTo pos (starEach es X.env)).any (·.1) = false := by rfl) : GE X (.Call (.Name x p) (e :: es) [] pos) (eCall mf ms) := by
  obtain ⟨f, fd, ps, h1, h2, h3, h4⟩ := F.ex
  exact ge_call h1 hr h2 h3 h4 ha hg hdb he hpl
theorem ge_f0 {X : Cx} {pos p : Pos} {k : Nat} {mf : List D → M D} {x : Str} (F : Fd X.prog X.w X.K X.mg X.base x k mf) (hr : Room k X.A) (hg : Gl X x := by rfl) (hdb : (x == ("__debug__" : Str)) = false := by decide) : GE X (.Call (.Name x p) [] [] pos) (eCall mf aNil) := by
  obtain ⟨f, fd, ps, h1, h2, h3, h4⟩ := F.ex
  exact ge_call0 h1 hr h2 h3 h4 hg hdb
/-! ### the head's facts -/
def obsG (fa : List He.Fa) (fn : List He.DefD) (cs : List (Str × D)) (K : PySem.W.Frag) : He.AlD := ((fa.all fun f => f.ok K) && (fn.all fun d => d.ok K) && cs.all (cstB K), fn.map fun d => He.fnW K d.at_)
def SaysG (fa : List He.Fa) (fn : List He.DefD) (cs : List (Str × D)) (K : PySem.W.Frag) : Prop := obsG fa fn cs K = He.valD fn
def obsGG (n : Nat) (fa : List He.Fa) (fn : List He.DefD) (cs : List (Str × D)) (g : Addr → Option Obj) : He.AlD := obsG fa fn cs (He.frG g (He.asD g n))
def hookG (n : Nat) (fa : List He.Fa) (fn : List He.DefD) (cs : List (Str × D)) : PySem.W.Hook where
  α := He.AlD
  obs := fun s => obsGG n fa fn cs s.heap.get?
  val := fun _ => He.valD fn
  says := fun _ h => ∃ K : PySem.W.Frag, K.In h ∧ SaysG fa fn cs K
  of := fun _ _ e => ⟨_, He.frG_in, e⟩
  keeps := fun _ _ _ ⟨K, hK, c⟩ k => ⟨K, PySem.W.Frag.In.keeps hK k, c⟩
theorem obsGG_eq {n : Nat} {fa : List He.Fa} {fn : List He.DefD} {cs : List (Str × D)} {g : Addr → Option Obj} {s : Shared} (h : ∀ a, g a = s.heap.get? a) : obsGG n fa fn cs g = (hookG n fa fn cs).obs s := by
  rw [show g = s.heap.get? from funext h]; rfl
section
variable {fa : List He.Fa} {fn : List He.DefD} {cs : List (Str × D)} {K : PySem.W.Frag}
theorem SaysG.d (c : SaysG fa fn cs K) : He.SaysD fa fn K := by
  have h1 : ((fa.all fun f => f.ok K) && (fn.all fun d => d.ok K) && cs.all (cstB K)) = true := congrArg (fun z : He.AlD => z.1) c
  have h2 : fn.map (fun d => He.fnW K d.at_) = fn.map He.DefD.val := congrArg (fun z : He.AlD => z.2) c
  rw [Bool.and_eq_true] at h1
  show (_, _) = (_, _)
  rw [h1.1, h2]
theorem SaysG.c (c : SaysG fa fn cs K) (i : Nat) {p : Str × D} (h : cs[i]? = some p := by rfl) : cstB K p = true := by
  have h1 : ((fa.all fun f => f.ok K) && (fn.all fun d => d.ok K) && cs.all (cstB K)) = true := congrArg (fun z : He.AlD => z.1) c
  rw [Bool.and_eq_true] at h1
  exact List.all_eq_true.mp h1.2 p (List.mem_of_getElem? h)
end
theorem SaysG.fm {fa : List He.Fa} {fn : List He.DefD} {cs : List (Str × D)} {K : PySem.W.Frag} (c : SaysG fa fn cs K) {f : He.Fa} (h : f ∈ fa) : f.ok K = true := by
  have h1 : ((fa.all fun f => f.ok K) && (fn.all fun d => d.ok K) && cs.all (cstB K)) = true := congrArg (fun z : He.AlD => z.1) c
  rw [Bool.and_eq_true, Bool.and_eq_true] at h1
  exact List.all_eq_true.mp h1.1.1 f h
theorem bits_lt {n : Int} (h : Builtin.Int.intBits n ≤ 1048576) : n.natAbs < 2 ^ 1049000 := by
  unfold Builtin.Int.intBits at h
  split at h
  · rename_i e
    rw [beq_iff_eq.mp e]
    exact Nat.two_pow_pos _
  · have h1 : n.natAbs < 2 ^ (n.natAbs.log2 + 1) := Nat.lt_log2_self
    exact Nat.lt_of_lt_of_le h1 (Nat.pow_le_pow_right (by decide) (by omega))
/-- a law's end -/
theorem walk_G {l : PySem.W.OpenLaw} {k : Nat} {q : Program} {loose : List Str} {XP : (Str → Option Value) → Heap → Prop} {YP : World → Heap → Prop} {d : DefRec} {x : Str}
    (hn : l.most = some 63) (hdf : d.params.defaults = []) (hr : Room k callerA)
    (F : ∀ (w : World) (mg : Str → Option Value) (fa : Addr) (h : Heap), YP w h → h.Ns mainGlobals mg → mg d.name = some (.ref fa) →
      ∃ (K : PySem.W.Frag) (fd : FuncData) (m : List D → M D), K.In h ∧ (∀ (s : Shared) (u : Value), BindsTo s fd ⟨[u], []⟩ [(x, u)]) ∧
        (∀ ns : List Int, ns.length ≤ 63 → (∀ n ∈ ns, n.natAbs < 2 ^ 1049000) → m [.scr ns] (fun d => d = .bl true)) ∧
        ∀ base : Heap, K.In base → base.Ns mainGlobals mg → FnOk l.prog w K mg base CX0 k fa fd [x] (SpG K m)) :
    PySem.W.WalkO q loose XP YP l.row.toRowW d [] (fun f vs => PySem.call f vs) := by
  refine Att.attach_callB hn hdf fun w s0 s1 mg mb fa o pm cd doc a vs ns G Y ho hd hcd hmg hobj hints hlen hbits hg => ?_
  obtain ⟨K, fd, m, KX, hb, hm, hF⟩ := F w mg fa _ Y G.T.g hmg
  refine law_call KX G.T.g G.T.b G.T.builtins G.T.nolimit hg hobj hints (Nat.le_trans hlen (by decide)) hr hF hb (fun H hO hS => ?_) fun H e s' z => z
  exact ⟨H, [.scr ns], _, .refl _, .cons (.scr hS) .nil, hm ns hlen fun n hn => bits_lt (hbits n hn), fun r v G' H' e _ y => by subst e; exact y.bl_inv⟩
end G
namespace G
open PySem PySem.Spec PyProof.Rows L2
/-- the built-in names that the text does not bind -/
structure Bt (mg : Str → Option Value) : Prop where
  abs : mg "abs" = none
  all : mg "all" = none
  any : mg "any" = none
  bool : mg "bool" = none
  dict : mg "dict" = none
  enumerate : mg "enumerate" = none
  int : mg "int" = none
  isinstance : mg "isinstance" = none
  len : mg "len" = none
  list : mg "list" = none
  max : mg "max" = none
  min : mg "min" = none
  range : mg "range" = none
  set : mg "set" = none
  sorted : mg "sorted" = none
  str : mg "str" = none
  sum : mg "sum" = none
  tuple : mg "tuple" = none
  zip : mg "zip" = none
def btNames : List Str := ["abs", "all", "any", "bool", "dict", "enumerate", "int", "isinstance", "len", "list", "max", "min", "range", "set", "sorted", "str", "sum", "tuple", "zip"]
def btFa : List He.Fa := btNames.map He.Fa.free
theorem bt_of {mg : Str → Option Value} (h : ∀ x ∈ btNames, mg x = none) : Bt mg := by
  constructor <;> exact h _ (by decide)
theorem hU {k : Nat} {A : Around} (hr : Room k A) : A.units + 65 < cLine := by have := hr.un; omega
end G
set_option Elab.async false
set_option linter.all false
set_option maxRecDepth 100000
namespace G
open PySem PySem.Spec PyProof.Rows L2
section
variable {X : Cx} {st : Stmt} {S T : SM} {e c : Expr} {m n : EM} {pos : Pos}
/-! ### three names at once -/
def sPar3 (i j l : Nat) (ms : Env → M (List D)) : SM := fun E env => ms env fun ds => match ds with | [d, e, f] => E.nx (setS (setS (setS env i (.fz d)) j (.fz e)) l (.fz f)) | _ => False
theorem gs_par3 (i j l : Nat) {ms : Env → M (List D)} (h : PS X st (tPar3 i j l (tGA X.K ms))) : GS X st (sPar3 i j l ms) := ps_imp h fun Dn σ H ⟨G0, H0, G, env, E, ok, q, k⟩ =>
  ⟨G0, H0, G, env, _, ok, q, fun ds vs G' H' p r y => by
    cases y with
    | nil => exact p.elim
    | cons h1 y => cases y with
      | nil => exact p.elim
      | cons h2 y => cases y with
        | nil => exact p.elim
        | cons h3 y => cases y with
          | nil => exact ⟨_, _, _, rfl, k.nx _ _ _ _ p ((((ok.mono r).set h1).set h2).set h3)⟩
          | cons h4 y => exact p.elim⟩
end
end G
set_option Elab.async false
set_option linter.all false
set_option maxRecDepth 100000
namespace G
open PySem PySem.Spec PyProof.Rows L2

/-! ### sorted(set(pairs of ints)), any ints -/
theorem perm_lift {α β : Type} {f : α → β} {vs ws : List β} (h : vs.Perm ws) : ∀ L : List α, ws = L.map f → ∃ L' : List α, L'.Perm L ∧ vs = L'.map f := by
  induction h with
  | nil => exact fun L e => ⟨L, .refl _, e⟩
  | cons x _ ih =>
    intro L e
    cases L with
    | nil => cases e
    | cons y L =>
      rw [List.map_cons] at e
      injection e with e1 e2
      obtain ⟨L', p, q⟩ := ih L e2
      exact ⟨y :: L', p.cons _, by rw [List.map_cons, e1, q]⟩
  | swap x y l =>
    intro L e
    cases L with
    | nil => cases e
    | cons u L =>
      cases L with
      | nil => injection e with _ e2; cases e2
      | cons v L =>
        rw [List.map_cons, List.map_cons] at e
        injection e with e1 e2
        injection e2 with e2 e3
        exact ⟨v :: u :: L, .swap _ _ _, by rw [List.map_cons, List.map_cons, e1, e2, e3]⟩
  | trans _ _ i1 i2 =>
    intro L e
    obtain ⟨L1, p1, e1⟩ := i2 L e
    obtain ⟨L2, p2, e2⟩ := i1 L1 e1
    exact ⟨L2, p2.trans p1, e2⟩
/-- the first two of a row -/
def pr (ns : List Int) : Int × Int := (ns.getD 0 0, ns.getD 1 0)
def kv (L : List (Addr × List Int)) : Value → Int × Int
  | .ref a => match L.find? (fun p => p.1 == a) with | some p => pr p.2 | none => (0, 0)
  | _ => (0, 0)
theorem kv_ref {L : List (Addr × List Int)} {q : Addr × List Int} (h : ∀ r ∈ L, r.1 = q.1 → r = q) (hq : q ∈ L) : kv L (.ref q.1) = pr q.2 := by
  unfold kv
  cases e : L.find? (fun p => p.1 == q.1) with
  | none => exact absurd (List.find?_eq_none.mp e q hq) (by simp)
  | some r =>
    have h1 := List.find?_some e
    have e2 := h r (List.mem_of_find?_eq_some e) (by simpa using h1)
    subst e2
    simp only [e]
theorem pair_of {P : Program} {w : World} {h : Heap} {x y : Int} {b : Addr} (k : IsTupleKey (intKind P w) h [x, y] b) : Srt.IsPair h (.ref b) x y := by
  obtain ⟨o, items, n, h1, h2, h3, h4⟩ := k
  obtain ⟨its⟩ := items
  cases h4 with
  | cons a1 r =>
    cases r with
    | cons a2 r =>
      cases r
      obtain ⟨t, rfl⟩ := Value.isInt_shape a1
      obtain ⟨u, rfl⟩ := Value.isInt_shape a2
      exact ⟨b, o, t, u, n, rfl, h1, h2, h3⟩
section
variable {P : Program} {w : World} {A : Around} {E : Value → Shared → Prop} {s : Shared} {a : Addr} {L : List (Addr × List Int)} {es : Array (Int × Value)} {ep : Nat} {t : SetTable}
theorem sorted_pairset {Q : Value → Shared → Prop} (R : SetTR P w s.heap a L es ep t) (hh : A.handled = none) (h2 : ∀ p ∈ L, ∃ x y : Int, p.2 = [x, y])
    (hQ : ∀ (s' : Shared) (p : Addr) (out : List Value) (c : Nat) (M : List (Addr × List Int)), (∀ b o, s.heap.get? b = some o → s'.heap.get? b = some o) → s'.gens = s.gens → s'.os = s.os → s.heap.objs.size ≤ p →
      s'.heap.get? p = some (seqObj "list" out.toArray c) → out = M.map (fun q => Value.ref q.1) → M.Perm L → (M.map fun q => pr q.2).Pairwise (fun x y => SrtO.lexB y x = false) → Q (.ref p) s') :
    wpAny (model P w) A (call (.builtin "sorted") [.ref a]) Q E s := by
  obtain ⟨o, ho, hex, hd⟩ := R.ob
  have few := R.few
  have sz := R.size
  have one : ∀ q ∈ L, ∀ r ∈ L, r.1 = q.1 → r = q := fun q hq r hr e => Prod.ext e ((show IsTupleKey _ _ _ _ from e ▸ R.tup r hr).inj (R.tup q hq))
  refine Calls.call_function_entry kind_sorted plain_sorted entry_sorted (args_sorted1 _) ?_
  unfold Builtin.«sorted»
  refine wpAny_bind (m := checkCount "sorted" 1 1 _) (wpAny_pure ?_)
  refine wpAny_bind (collect_set (A := A.in1) hh ⟨o, ho, hex.1, hd⟩ R.fits (by unfold scanBound; omega) R.tab.ris R.led fun s1 vs k1 z1 g1 o1 pm => ?_)
  have rows : es.toList.map (·.2) = L.map fun q => Value.ref q.1 := by
    rw [R.rows]; unfold rowsOf; rw [List.map_map]; rfl
  rw [rows] at pm
  have lv : vs.length < 64 := by rw [pm.length_eq, List.length_map]; exact few
  have lz : vs.length ≤ sizeLine := by rw [sizeLine_eq]; omega
  refine wpAny_bind (wpAny_newList ?_ lz)
  have at1 : (s1.heap.push (seqObj "list" vs.toArray 0)).get? s1.heap.objs.size = some (seqObj "list" vs.toArray 0) := Heap.get?_push_size _ rfl
  have keep1 : ∀ b u, s.heap.get? b = some u → (s1.heap.push (seqObj "list" vs.toArray 0)).get? b = some u := fun b u e => Heap.get?_push_of_some _ (k1 b u e)
  have prs : ∀ v ∈ vs, Srt.IsPair (s1.heap.push (seqObj "list" vs.toArray 0)) v (kv L v).1 (kv L v).2 := fun v hv => by
    obtain ⟨q, hq, rfl⟩ := List.mem_map.mp (pm.mem_iff.mp hv)
    obtain ⟨x, y, e⟩ := h2 q hq
    rw [kv_ref (one q hq) hq]
    have k := R.tup q hq
    rw [e] at k ⊢
    exact pair_of (isT_keep k keep1)
  refine wpAny_bind (wpAny_holding (wpAny_call_entry (s := { s1 with heap := s1.heap.push (seqObj "list" vs.toArray 0) }) PyProof.Rows.slot_list_sort ⟨_, at1, rfl⟩ PyProof.Rows.entry_list_sort
    (SrtO.list_sort_ord (SrtO.swo_lex (kv L)) at1 lz (fun l2 => SrtO.pairs_sortableO (s := { s1 with heap := s1.heap.push (seqObj "list" vs.toArray 0) }) (by omega) prs fun u e => ?_) fun out so st => ⟨_, rfl, ?_⟩) (PyProof.Rows.args_list_sort _)))
  · have e' : some u = some (seqObj "list" vs.toArray 0) := e.symm.trans at1
    cases e'
    exact fun c => absurd (Value.type.inj c) (by decide)
  · obtain ⟨c, hc⟩ := sortedHeap_at (vs := vs) (out := out.toArray) at1
    obtain ⟨M, pM, eM⟩ := perm_lift (st.perm.trans pm) L rfl
    refine wpAny_pure ⟨_, rfl, hQ _ s1.heap.objs.size out c M (fun b u e => ?_) g1 o1 z1 hc eM pM ?_⟩
    · have lt := Heap.lt_size (k1 b u e)
      show (sortedHeap (s1.heap.push (seqObj "list" vs.toArray 0)) s1.heap.objs.size vs out.toArray).get? b = some u
      rw [sortedHeap_old (Nat.ne_of_lt lt) (by rw [size_push']; exact Nat.lt_succ_of_lt lt)]
      exact keep1 b u e
    · rw [eM] at so
      have so1 := List.pairwise_map.mp so
      rw [List.pairwise_map]
      refine List.Pairwise.imp_of_mem (fun {q r} hq hr h => ?_) so1
      have mq := pM.mem_iff.mp hq
      have mr := pM.mem_iff.mp hr
      have h' : SrtO.lexB (kv L (.ref r.1)) (kv L (.ref q.1)) = false := h
      rw [kv_ref (one q mq) mq, kv_ref (one r mr) mr] at h'
      exact h'
end
def rSortSP (K : PySem.W.Frag) (P : Program) (w : World) : List V → Hp → VK → Prop := fun vs H Q => ∃ (a : Addr) (L : List (Addr × List Int)), vs = [V.ref a] ∧ H a = some (SetTO P w a L) ∧ (∀ p ∈ L, SqT K H p.1 (p.2.map V.int)) ∧ (∀ p ∈ L, ∃ x y : Int, p.2 = [x, y]) ∧
  ∀ (M : List (Addr × List Int)) (p : Addr), M.Perm L → (M.map (·.2)).Nodup → (M.map fun q => pr q.2).Pairwise (fun x y => SrtO.lexB y x = false) → H p = none → Q (.ref p) (upd H p (.lst (M.map fun q => V.ref q.1)))
section
variable {X : Cx}
theorem cr_sortSP (hc : X.calm = true) : CallR X (.builtin "sorted") (rSortSP X.K X.prog X.w) := by
  intro pins s σ H vs us Q I r ⟨a, L, e0, ha, hk, h2, q⟩
  subst e0
  have R0 : SetT0 X.prog X.w s.heap a L := (I.hok a _ ha).1
  obtain ⟨es, ep, t, R⟩ := R0.full fun p hp => I.isT (hk p hp)
  rw [Vals.ref1 r]
  refine sorted_pairset R (I.ok.hd hc) h2 fun s' p out c M k g o hp hg e pm pw => ?_
  have few : M.length < 64 := by rw [pm.length_eq]; exact R.few
  have hn : H p = none := I.hok.fresh hp
  have hv : Vals (M.map fun q => V.ref q.1) out := by rw [e]; exact vals_of_refs M
  have J : Inv X pins σ (upd H p (.lst (M.map fun q => V.ref q.1))) { s with heap := s'.heap, gens := s'.gens, drawn := s'.drawn, toks := s'.toks } :=
    I.call (ch := []) (Un.laid k hp hn) (I.hok.laid k hp ⟨by rw [List.length_map, sizeLine_eq]; omega, out, c, hv, hg⟩) (by rw [g]; exact I.bare) (fun _ z => nomatch z)
  have e' : s' = { s with heap := s'.heap, gens := s'.gens, drawn := s'.drawn, toks := s'.toks } := by
    cases s'; cases s; cases o; rfl
  rw [e']
  exact ⟨.ref p, _, J, rfl, q M p pm ((pm.map (·.2)).nodup_iff.mpr R.nd) pw hn⟩
end

/-! ### min, max -/
def lmin : List Int → Int
  | [] => 0
  | x :: r => r.foldl min x
def lmax : List Int → Int
  | [] => 0
  | x :: r => r.foldl max x
theorem foldl_min_le : ∀ (r : List Int) (x : Int), r.foldl min x ≤ x ∧ (∀ y ∈ r, r.foldl min x ≤ y) ∧ (r.foldl min x = x ∨ r.foldl min x ∈ r)
  | [], x => ⟨Int.le_refl _, (fun _ h => nomatch h), .inl rfl⟩
  | y :: r, x => by
    obtain ⟨h1, h2, h3⟩ := foldl_min_le r (min x y)
    rw [List.foldl_cons]
    refine ⟨by omega, fun z hz => ?_, ?_⟩
    · rcases List.mem_cons.mp hz with rfl | hz
      · omega
      · exact h2 z hz
    · rcases h3 with h | h
      · rw [h]
        rcases (show min x y = x ∨ min x y = y by omega) with e | e
        · exact .inl e
        · rw [e]; exact .inr List.mem_cons_self
      · exact .inr (List.mem_cons_of_mem _ h)
theorem foldl_max_le : ∀ (r : List Int) (x : Int), x ≤ r.foldl max x ∧ (∀ y ∈ r, y ≤ r.foldl max x) ∧ (r.foldl max x = x ∨ r.foldl max x ∈ r)
  | [], x => ⟨Int.le_refl _, (fun _ h => nomatch h), .inl rfl⟩
  | y :: r, x => by
    obtain ⟨h1, h2, h3⟩ := foldl_max_le r (max x y)
    rw [List.foldl_cons]
    refine ⟨by omega, fun z hz => ?_, ?_⟩
    · rcases List.mem_cons.mp hz with rfl | hz
      · omega
      · exact h2 z hz
    · rcases h3 with h | h
      · rw [h]
        rcases (show max x y = x ∨ max x y = y by omega) with e | e
        · exact .inl e
        · rw [e]; exact .inr List.mem_cons_self
      · exact .inr (List.mem_cons_of_mem _ h)
theorem lmin_le {ns : List Int} : ∀ y ∈ ns, lmin ns ≤ y := by
  cases ns with
  | nil => intro y h; cases h
  | cons x r =>
    intro y h
    obtain ⟨h1, h2, _⟩ := foldl_min_le r x
    rcases List.mem_cons.mp h with rfl | h
    · exact h1
    · exact h2 y h
theorem lmin_mem {ns : List Int} (h : ns ≠ []) : lmin ns ∈ ns := by
  cases ns with
  | nil => exact absurd rfl h
  | cons x r =>
    obtain ⟨_, _, h3⟩ := foldl_min_le r x
    show r.foldl min x ∈ x :: r
    rcases h3 with h | h
    · rw [h]; exact List.mem_cons_self
    · exact List.mem_cons_of_mem _ h
theorem lmax_le {ns : List Int} : ∀ y ∈ ns, y ≤ lmax ns := by
  cases ns with
  | nil => intro y h; cases h
  | cons x r =>
    intro y h
    obtain ⟨h1, h2, _⟩ := foldl_max_le r x
    rcases List.mem_cons.mp h with rfl | h
    · exact h1
    · exact h2 y h
theorem lmax_mem {ns : List Int} (h : ns ≠ []) : lmax ns ∈ ns := by
  cases ns with
  | nil => exact absurd rfl h
  | cons x r =>
    obtain ⟨_, _, h3⟩ := foldl_max_le r x
    show r.foldl max x ∈ x :: r
    rcases h3 with h | h
    · rw [h]; exact List.mem_cons_self
    · exact List.mem_cons_of_mem _ h
def dMin : List D → M D
  | [.lst ds] => fun P => match intsD ds with | some bs => bs ≠ [] ∧ P (.int (lmin bs)) | none => False
  | [.int i, .int j] => ret (.int (if j < i then j else i))
  | _ => stuck
def dMax : List D → M D
  | [.lst ds] => fun P => match intsD ds with | some bs => bs ≠ [] ∧ P (.int (lmax bs)) | none => False
  | [.int i, .int j] => ret (.int (if j > i then j else i))
  | _ => stuck
section
variable {X : Cx}
theorem c_min (hc : X.calm = true) : CallR X (.builtin "min") (rGC X.K dMin) := by
  intro pins s σ H vs us Q I rv ⟨G, ds, P, b, hd, hf, k⟩
  unfold dMin at hf
  split at hf
  · obtain ⟨v, rfl, h⟩ := hd.one_inv
    obtain ⟨a, xs, rfl, h1, h2⟩ := h.lst_inv b
    split at hf
    · rename_i bs hb
      have e := h2.intl hb
      subst e
      obtain ⟨hne, hp⟩ := hf
      exact cr_min hc pins s σ H _ us Q I rv ⟨a, bs, rfl, .of h1, List.length_pos_iff.mpr hne, fun m m1 m2 => k _ _ _ _ (by
        have e : lmin bs = m := Int.le_antisymm (lmin_le m m1) (m2 _ (lmin_mem hne))
        rw [← e]; exact hp) (.refl b) (.int _)⟩
    · exact hf.elim
  · rename_i i j
    obtain ⟨v, w, rfl, h1, h2⟩ := hd.two_inv
    have e1 := h1.int_inv
    have e2 := h2.int_inv
    subst e1 e2
    exact call_min2 hc pins s σ H _ us Q I rv ⟨i, j, rfl, k _ _ _ _ hf (.refl b) (.int _)⟩
  · exact hf.elim
theorem c_max (hc : X.calm = true) : CallR X (.builtin "max") (rGC X.K dMax) := by
  intro pins s σ H vs us Q I rv ⟨G, ds, P, b, hd, hf, k⟩
  unfold dMax at hf
  split at hf
  · obtain ⟨v, rfl, h⟩ := hd.one_inv
    obtain ⟨a, xs, rfl, h1, h2⟩ := h.lst_inv b
    split at hf
    · rename_i bs hb
      have e := h2.intl hb
      subst e
      obtain ⟨hne, hp⟩ := hf
      exact cr_max hc pins s σ H _ us Q I rv ⟨a, bs, rfl, .of h1, List.length_pos_iff.mpr hne, fun m m1 m2 => k _ _ _ _ (by
        have e : lmax bs = m := Int.le_antisymm (m2 _ (lmax_mem hne)) (lmax_le m m1)
        rw [← e]; exact hp) (.refl b) (.int _)⟩
    · exact hf.elim
  · rename_i i j
    obtain ⟨v, w, rfl, h1, h2⟩ := hd.two_inv
    have e1 := h1.int_inv
    have e2 := h2.int_inv
    subst e1 e2
    exact call_max2 hc pins s σ H _ us Q I rv ⟨i, j, rfl, k _ _ _ _ hf (.refl b) (.int _)⟩
  · exact hf.elim
end
end G
namespace G
open PySem PySem.Spec PyProof.Rows L2
/-! ### the sorted members of a list of pairs -/
def lx (p q : Int × Int) : Bool := SrtO.lexB p q
def insP (p : Int × Int) : List (Int × Int) → List (Int × Int)
  | [] => [p]
  | q :: r => if p = q then q :: r else if lx p q = true then p :: q :: r else q :: insP p r
def ssort (ps : List (Int × Int)) : List (Int × Int) := ps.foldr insP []
theorem lx_iff {p q : Int × Int} : lx p q = true ↔ p.1 < q.1 ∨ (p.1 = q.1 ∧ p.2 < q.2) := SrtO.lexB_iff
theorem mem_insP {p q : Int × Int} : ∀ {l : List (Int × Int)}, q ∈ insP p l ↔ q = p ∨ q ∈ l
  | [] => by simp [insP]
  | x :: r => by
    unfold insP
    split
    · rename_i e
      subst e
      simp
    · split
      · simp
      · rw [List.mem_cons, mem_insP, List.mem_cons]
        constructor
        · rintro (h | h | h)
          · exact .inr (.inl h)
          · exact .inl h
          · exact .inr (.inr h)
        · rintro (h | h | h)
          · exact .inr (.inl h)
          · exact .inl h
          · exact .inr (.inr h)
theorem mem_ssort {q : Int × Int} : ∀ {l : List (Int × Int)}, q ∈ ssort l ↔ q ∈ l
  | [] => by simp [ssort]
  | x :: r => by
    show q ∈ insP x (ssort r) ↔ _
    rw [mem_insP, mem_ssort, List.mem_cons]
abbrev Asc (l : List (Int × Int)) : Prop := l.Pairwise fun p q => lx p q = true
theorem asc_insP {p : Int × Int} : ∀ {l : List (Int × Int)}, Asc l → Asc (insP p l)
  | [], _ => by simp [insP]
  | x :: r, h => by
    obtain ⟨h1, h2⟩ := List.pairwise_cons.mp h
    unfold insP
    split
    · exact h
    · rename_i ne
      split
      · rename_i lt
        refine List.pairwise_cons.mpr ⟨fun y hy => ?_, h⟩
        rcases List.mem_cons.mp hy with rfl | hy
        · exact lt
        · have a := lx_iff.mp lt
          have b := lx_iff.mp (h1 y hy)
          exact lx_iff.mpr (by omega)
      · rename_i nl
        refine List.pairwise_cons.mpr ⟨fun y hy => ?_, asc_insP h2⟩
        rcases mem_insP.mp hy with rfl | hy
        · refine lx_iff.mpr ?_
          have a : ¬ (y.1 < x.1 ∨ (y.1 = x.1 ∧ y.2 < x.2)) := fun z => nl (lx_iff.mpr z)
          have b : ¬ (y.1 = x.1 ∧ y.2 = x.2) := fun ⟨z, z'⟩ => ne (Prod.ext z z')
          omega
        · exact h1 y hy
theorem asc_ssort : ∀ {l : List (Int × Int)}, Asc (ssort l)
  | [] => .nil
  | x :: r => asc_insP (asc_ssort (l := r))
theorem asc_eq : ∀ {l m : List (Int × Int)}, Asc l → Asc m → (∀ q, q ∈ l ↔ q ∈ m) → l = m
  | [], [], _, _, _ => rfl
  | [], x :: m, _, _, h => absurd ((h x).mpr List.mem_cons_self) (by simp)
  | x :: l, [], _, _, h => absurd ((h x).mp List.mem_cons_self) (by simp)
  | x :: l, y :: m, h1, h2, h => by
    obtain ⟨a1, a2⟩ := List.pairwise_cons.mp h1
    obtain ⟨b1, b2⟩ := List.pairwise_cons.mp h2
    have e : x = y := by
      rcases List.mem_cons.mp ((h x).mp List.mem_cons_self) with e | hx
      · exact e
      · rcases List.mem_cons.mp ((h y).mpr List.mem_cons_self) with e | hy
        · exact e.symm
        · have z1 := lx_iff.mp (b1 x hx)
          have z2 := lx_iff.mp (a1 y hy)
          omega
    subst e
    congr 1
    refine asc_eq a2 b2 fun q => ⟨fun hq => ?_, fun hq => ?_⟩
    · rcases List.mem_cons.mp ((h q).mp (List.mem_cons_of_mem _ hq)) with e | z
      · subst e
        have z1 := lx_iff.mp (a1 q hq)
        omega
      · exact z
    · rcases List.mem_cons.mp ((h q).mpr (List.mem_cons_of_mem _ hq)) with e | z
      · subst e
        have z1 := lx_iff.mp (b1 q hq)
        omega
      · exact z
theorem ssort_eq {l m : List (Int × Int)} (h1 : Asc m) (h : ∀ q, q ∈ m ↔ q ∈ l) : m = ssort l := asc_eq h1 asc_ssort fun q => (h q).trans mem_ssort.symm
/-- a pair as data -/
def pD (p : Int × Int) : D := .tup [.int p.1, .int p.2]
def pairsP : List D → Option (List (Int × Int))
  | [] => some []
  | .tup [.int x, .int y] :: r => (pairsP r).map ((x, y) :: ·)
  | _ :: _ => none
theorem pairsP_map : ∀ ps : List (Int × Int), pairsP (ps.map pD) = some ps
  | [] => rfl
  | p :: r => by show (pairsP (r.map pD)).map _ = _; rw [pairsP_map r]; rfl
theorem RepL.pairs {K : PySem.W.Frag} {G : Hp} : ∀ {ds : List D} {vs : List V} {ps : List (Int × Int)}, RepL K G ds vs → pairsP ds = some ps →
    ∃ ks : List (Addr × List Int), vs = ks.map (fun p => V.ref p.1) ∧ (∀ p ∈ ks, G p.1 = some (.tup (p.2.map V.int))) ∧ ks.map (·.2) = ps.map fun p => [p.1, p.2]
  | _, _, _, .nil, h => by cases h; exact ⟨[], rfl, (fun _ h => nomatch h), rfl⟩
  | d :: ds, _, ps, .cons hr r, h => by
    unfold pairsP at h
    split at h
    · rename_i e0; cases e0
    · rename_i x y r0 e0
      cases e0
      obtain ⟨qs, h1, rfl⟩ := Option.map_eq_some_iff.mp h
      obtain ⟨ks, e1, e2, e3⟩ := r.pairs h1
      cases hr with
      | tup ha ra =>
        cases ra with
        | cons ra1 ra =>
          cases ra1
          cases ra with
          | cons ra2 ra =>
            cases ra2
            cases ra
            refine ⟨(_, [x, y]) :: ks, by rw [e1]; rfl, fun p hp => ?_, by rw [List.map_cons, List.map_cons, e3]⟩
            rcases List.mem_cons.mp hp with rfl | hp
            · exact ha
            · exact e2 p hp
    · cases h
/-- sorted(set(xs)), xs a list of pairs of ints -/
def dSSet : List D → M D
  | [.lst ds] => fun P => match pairsP ds with | some ps => ps.length < 64 ∧ P (.lst ((ssort ps).map pD)) | none => False
  | _ => stuck
section
variable {X : Cx} {e : Expr} {ms : Env → M (List D)}
theorem fe_sset {p p2 pos pos2 : Pos} (hc : X.calm = true) (hu : X.A.units + 65 < cLine) (z1 : X.mg "sorted" = none) (z2 : X.mg "set" = none) (ha : BA X [e] ms) (g1 : Gl X "sorted" := by rfl) (g2 : Gl X "set" := by rfl)
    (he : starEach [e] X.env = (false, eval e X.env) :: starEach [] X.env := by rfl) (hpl : (backTo pos2 (starEach [] X.env)).any (·.1) = false := by rfl)
    (he' : starEach [.Call (.Name "set" p2) [e] [] pos2] X.env = (false, eval (.Call (.Name "set" p2) [e] [] pos2) X.env) :: starEach [] X.env := by rfl) (hpl' : (backTo pos (starEach [] X.env)).any (·.1) = false := by rfl) :
    FE X (.Call (.Name "sorted" p) [.Call (.Name "set" p2) [e] [] pos2] [] pos) (eCall dSSet ms) :=
  pe_imp (pe_callB (cr_sortSP hc) g1 z1 (by decide +kernel) (pa_cons (pe_callTy (cr_setOfT hc (by omega)) g2 z2 (by decide +kernel) ha (by decide) (by decide) he hpl) pa_nil he') (by decide) (by decide) he' hpl') fun σ H Q ⟨G0, H0, G, env, P, ok, hm, k⟩ => by
    refine ⟨G0, H0, G, env, _, ok, hm, fun ds vs G1 H1 hP r1 q1 => ?_⟩
    unfold dSSet at hP
    split at hP
    · obtain ⟨v, rfl, h⟩ := q1.one_inv
      obtain ⟨l, xs, rfl, h1, h2⟩ := h.lst_inv r1.b
      split at hP
      · rename_i ps hp
        obtain ⟨h64, hP⟩ := hP
        obtain ⟨ks, rfl, e2, e3⟩ := h2.pairs hp
        have two : ∀ q ∈ ks, ∃ x y : Int, q.2 = [x, y] := fun q hq => by
          have : q.2 ∈ ks.map (·.2) := List.mem_map_of_mem hq
          rw [e3] at this
          obtain ⟨p, _, e⟩ := List.mem_map.mp this
          exact ⟨_, _, e.symm⟩
        have nk : ks.length = ps.length := by have := congrArg List.length e3; simpa using this
        refine ⟨l, ks, rfl, .of h1, fun q hq => .of (r1.b _ _ (e2 q hq)), by omega, fun a L ha hL1 hL2 => ⟨a, L, rfl, upd_same, fun q hq => .of ((Ex.new ha) _ _ (r1.b _ _ (e2 q (hL1 q hq)))), fun q hq => two q (hL1 q hq), fun M b pm nd pw hb => ?_⟩⟩
        have mem : ∀ q ∈ M, q ∈ ks := fun q hq => hL1 q (pm.mem_iff.mp hq)
        have eM : ∀ M' : List (Addr × List Int), (∀ q ∈ M', q ∈ ks) → RepL X.K G1 ((M'.map fun q => pr q.2).map pD) (M'.map fun q => V.ref q.1) := fun M' => by
          induction M' with
          | nil => exact fun _ => .nil
          | cons q M' ih =>
            intro hq
            obtain ⟨x, y, e⟩ := two q (hq q List.mem_cons_self)
            have ht := e2 q (hq q List.mem_cons_self)
            rw [e] at ht
            refine .cons ?_ (ih fun r hr => hq r (List.mem_cons_of_mem _ hr))
            show Rep X.K G1 (pD (pr q.2)) (V.ref q.1)
            rw [e]
            exact .tup ht (.cons (.int x) (.cons (.int y) .nil))
        have asc : Asc (M.map fun q => pr q.2) := by
          rw [Asc, List.pairwise_map]
          rw [List.pairwise_map] at pw
          have nd1 : M.Pairwise (fun q r => q.2 ≠ r.2) := List.pairwise_map.mp nd
          refine List.Pairwise.imp_of_mem (fun {q r} hq hr hh => ?_) (pw.and nd1)
          obtain ⟨x, y, e⟩ := two q (mem q hq)
          obtain ⟨x', y', e'⟩ := two r (mem r hr)
          obtain ⟨z1, z2⟩ := hh
          rw [e, e'] at z1 z2
          have z3 := SrtO.lexB_no.mp z1
          refine lx_iff.mpr ?_
          have z4 : ¬ (x = x' ∧ y = y') := fun ⟨a, b⟩ => z2 (by rw [a, b])
          simp only [pr, List.getD_cons_zero, List.getD_cons_succ, e, e'] at z3 ⊢
          omega
        have em : (M.map fun q => pr q.2) = ssort ps := ssort_eq asc fun q => by
          constructor
          · intro hq
            obtain ⟨r, hr, rfl⟩ := List.mem_map.mp hq
            have : r.2 ∈ ks.map (·.2) := List.mem_map_of_mem (mem r hr)
            rw [e3] at this
            obtain ⟨p, hp, e⟩ := List.mem_map.mp this
            rw [← e]
            exact hp
          · intro hq
            have : [q.1, q.2] ∈ ks.map (·.2) := by rw [e3]; exact List.mem_map.mpr ⟨q, hq, rfl⟩
            obtain ⟨r, hr, e⟩ := List.mem_map.mp this
            obtain ⟨r', hr', e'⟩ := List.mem_map.mp (hL2 r hr)
            refine List.mem_map.mpr ⟨r', pm.mem_iff.mpr hr', ?_⟩
            show pr r'.2 = q
            have e'' : r'.2 = r.2 := e'
            rw [e'', e]
            rfl
        refine k _ b G1 _ hP ((r1.trans (.newO r1.b ha)).trans (.newO (Gr.newO r1.b ha).b hb)) (r1.h.fresh ((Ex.new ha).fresh hb)) (r1.b.fresh ((Ex.new ha).fresh hb)) ?_
        rw [← em]
        exact .lst upd_same (eM M mem)
      · exact hP.elim
    · exact hP.elim
end
/-! ### sorted ints, sums of tuples -/
def insI (x : Int) : List Int → List Int
  | [] => [x]
  | y :: r => if x ≤ y then x :: y :: r else y :: insI x r
def isort (ns : List Int) : List Int := ns.foldr insI []
theorem insI_perm {x : Int} : ∀ {l : List Int}, (insI x l).Perm (x :: l)
  | [] => .refl _
  | y :: r => by
    unfold insI
    split
    · exact .refl _
    · exact (insI_perm.cons y).trans (.swap x y r)
theorem isort_perm : ∀ {l : List Int}, (isort l).Perm l
  | [] => .refl _
  | x :: r => insI_perm.trans ((isort_perm (l := r)).cons x)
theorem insI_asc {x : Int} : ∀ {l : List Int}, l.Pairwise (· ≤ ·) → (insI x l).Pairwise (· ≤ ·)
  | [], _ => by simp [insI]
  | y :: r, h => by
    obtain ⟨h1, h2⟩ := List.pairwise_cons.mp h
    unfold insI
    split
    · rename_i le
      refine List.pairwise_cons.mpr ⟨fun z hz => ?_, h⟩
      rcases List.mem_cons.mp hz with rfl | hz
      · exact le
      · exact Int.le_trans le (h1 z hz)
    · rename_i nl
      refine List.pairwise_cons.mpr ⟨fun z hz => ?_, insI_asc h2⟩
      rcases List.mem_cons.mp (insI_perm.mem_iff.mp hz) with rfl | hz
      · omega
      · exact h1 z hz
theorem isort_asc : ∀ {l : List Int}, (isort l).Pairwise (· ≤ ·)
  | [] => .nil
  | x :: r => insI_asc (isort_asc (l := r))
theorem ints_eq : ∀ {l m : List Int}, l.Pairwise (· ≤ ·) → m.Pairwise (· ≤ ·) → l.Perm m → l = m
  | [], m, _, _, p => p.nil_eq
  | x :: l, [], _, _, p => absurd p.symm.nil_eq (by simp)
  | x :: l, y :: m, h1, h2, p => by
    obtain ⟨a1, a2⟩ := List.pairwise_cons.mp h1
    obtain ⟨b1, b2⟩ := List.pairwise_cons.mp h2
    have e : x = y := by
      rcases List.mem_cons.mp (p.mem_iff.mp List.mem_cons_self) with e | hx
      · exact e
      · rcases List.mem_cons.mp (p.mem_iff.mpr List.mem_cons_self) with e | hy
        · exact e.symm
        · exact Int.le_antisymm (a1 y hy) (b1 x hx)
    subst e
    rw [ints_eq a2 b2 p.cons_inv]
section
variable {prog : Program} {w : World} {A : Around} {E : Value → Shared → Prop} {s : Shared}
theorem sum_tup {l : Addr} {xs : Array (Int × Tok)} {Q : Value → Shared → Prop} (hh : A.handled = none) (hl : s.heap.IsTuple l (intItems xs))
    (h : ∀ h' tk t', (∀ b o, s.heap.get? b = some o → h'.get? b = some o) → Q (.int (preSum (numAt xs) xs.size) t') { s with heap := h', toks := tk }) :
    wpAny (model prog w) A (call (.builtin "sum") [.ref l]) Q E s := by
  have hlt : l < s.heap.objs.size := by obtain ⟨_, e, _⟩ := hl; exact Heap.lt_size e
  refine call_sum_walkG (wpAny_pyIter_tuple hl ?_)
  refine ⟨_, _, _, _, _, _, numAt xs, rfl, Walks.tuple (A := A.in1) hh _ l (Nat.ne_of_lt hlt) (intItems xs), ⟨⟨_, Heap.get?_push_size _ rfl, rfl, rfl⟩, hl.push _⟩, fun b hb => ?_, (fun _ _ => intItems_at), fun h' tk t' hk => ?_⟩
  · show b < (s.heap.push _).objs.size
    rw [Heap.size_push]
    rcases List.mem_cons.mp hb with rfl | hb
    · exact Nat.lt_succ_self _
    · rcases List.mem_cons.mp hb with rfl | hb
      · exact Nat.lt_succ_of_lt hlt
      · cases hb
  · have q := h h' tk t' (fun b o e => hk b o (fun hm => by
      rcases List.mem_cons.mp hm with e1 | hm
      · exact absurd (e1 ▸ Heap.lt_size e) (Nat.lt_irrefl _)
      · cases hm) (Heap.get?_push_of_some _ e))
    simpa [intItems] using q
end
def dSumA : List D → M D
  | [.lst ds] => fun P => match intsD ds with | some bs => P (.int bs.sum) | none => False
  | [.tup ds] => fun P => match intsD ds with | some bs => P (.int bs.sum) | none => False
  | _ => stuck
section
variable {X : Cx}
theorem c_sumA (hc : X.calm = true) : CallR X (.builtin "sum") (rGC X.K dSumA) := by
  intro pins s σ H vs us Q I rv ⟨G, ds, P, b, hd, hf, k⟩
  unfold dSumA at hf
  split at hf
  · obtain ⟨v, rfl, h⟩ := hd.one_inv
    obtain ⟨a, xs, rfl, h1, h2⟩ := h.lst_inv b
    split at hf
    · rename_i bs hb
      have e := h2.intl hb
      subst e
      exact cr_sum hc pins s σ H _ us Q I rv ⟨a, bs, rfl, .of h1, k _ _ _ _ hf (.refl b) (.int _)⟩
    · exact hf.elim
  · obtain ⟨v, rfl, h⟩ := hd.one_inv
    obtain ⟨a, xs, rfl, h1, h2⟩ := h.tup_inv b
    split at hf
    · rename_i bs hb
      have e := h2.intl hb
      subst e
      obtain ⟨its, rr, hT, _⟩ := I.tuple h1
      rw [Vals.ref1 rv]
      have hi : IntsAre its bs := rr.ints
      obtain ⟨xs, ex⟩ := hi.allInts.items
      have hn : numsOf (intItems xs).toList = bs := by rw [← ex]; exact hi.numsOf
      rw [nums_intItems] at hn
      have hT' : s.heap.IsTuple a its.toArray := hT
      rw [ex] at hT'
      refine sum_tup (I.ok.hd hc) hT' fun h' tk t' hk => ⟨.int _, H, I.kept hk, ⟨_, rfl⟩, ?_⟩
      rw [preSum_eq, List.take_of_length_le (by simp), hn]
      exact k _ _ _ _ hf (.refl b) (.int _)
    · exact hf.elim
  · exact hf.elim
end
/-! ### three names at once, some of them for new things -/
def tK (K : PySem.W.Frag) (k : Bool) (m : EM) : TE := match k with | true => tF K m | false => tG K m
def slK (k : Bool) (d : D) : Sl := match k with | true => .ow d | false => .fz d
def sP3 (k1 k2 k3 : Bool) (i j l : Nat) (a b c : EM) : SM := fun E env => a env fun d => b env fun e => c env fun f => E.nx (setS (setS (setS env i (slK k1 d)) j (slK k2 e)) l (slK k3 f))
theorem tK_step {K : PySem.W.Frag} {k : Bool} {m : EM} {i : Nat} {G0 H0 G H : Hp} {σ σA : L2.St} {env envA : Env} {P : D → Prop} {Q : V → Hp → Prop} (ok : Ok K G0 H0 G H σ env) (oa : Ok K G0 H0 G H σA envA) (hm : m env P)
    (h : ∀ d v G' H', P d → Gr G H G' H' → Ok K G0 H0 G' H' (σA.set i (some v)) (setS envA i (slK k d)) → Q v H') : tK K k m σ H Q := by
  cases k with
  | true => exact ⟨G0, H0, G, env, P, ok, hm, fun d a G' H' p r h1 h2 h3 => h d _ G' H' p r (oa.setN r h1 h2 h3)⟩
  | false => exact ⟨G0, H0, G, env, P, ok, hm, fun d v G' H' p r y => h d v G' H' p r ((oa.mono r).set y)⟩
section
variable {X : Cx} {st : Stmt}
theorem gs_p3 (k1 k2 k3 : Bool) (i j l : Nat) {a b c : EM} (h : PS X st (tPar3 i j l (tCons (tK X.K k1 a) (tCons (tK X.K k2 b) (tCons (tK X.K k3 c) tNil))))) : GS X st (sP3 k1 k2 k3 i j l a b c) :=
  ps_imp h fun Dn σ H ⟨G0, H0, G, env, E, ok, q, k⟩ => tK_step ok ok q fun d v G1 H1 p1 r1 o1 => tK_step (ok.mono r1) o1 p1 fun e w G2 H2 p2 r2 o2 => tK_step ((ok.mono r1).mono r2) o2 p2 fun f u G3 H3 p3 r3 o3 =>
    ⟨v, w, u, rfl, k.nx _ _ _ _ p3 o3⟩
abbrev tTripC (K : PySem.W.Frag) (i j l : Nat) (ta tb tc : TE) : TS := tAsg (tTup (tCons ta (tCons tb (tCons tc tNil)))) (gTup K 3 (gCons (gName i) (gCons (gName j) (gCons (gName l) gNil))))
theorem gs_p3c (k1 k2 k3 : Bool) (i j l : Nat) {a b c : EM} (h : PS X st (tTripC X.K i j l (tK X.K k1 a) (tK X.K k2 b) (tK X.K k3 c))) : GS X st (sP3 k1 k2 k3 i j l a b c) :=
  ps_imp h fun Dn σ H ⟨G0, H0, G, env, E, ok, q, k⟩ => tK_step ok ok q fun d v G1 H1 p1 r1 o1 => tK_step (ok.mono r1) o1 p1 fun e w G2 H2 p2 r2 o2 => tK_step ((ok.mono r1).mono r2) o2 p2 fun f u G3 H3 p3 r3 o3 =>
    ⟨by show 3 ≤ sizeLine; decide, fun p hp => ⟨p, _, rfl, .of upd_same, rfl, v, [w, u], rfl, w, [u], rfl, u, [], rfl, rfl, k.nx _ _ _ _ p3 (o3.mono (.newO r3.b hp))⟩⟩
end
end G
set_option Elab.async false
set_option linter.all false
set_option maxRecDepth 100000
namespace G
open PySem PySem.Spec PyProof.Rows L2
section
variable {prog : Program} {w : World} {A : Around} {E : Value → Shared → Prop} {s : Shared}
/-- the heap when a tuple's items were gathered -/
def gath (h : Heap) (xs : List Value) : Heap := (h.push (seqObj "list" #[] 0)).update h.objs.size (Obj.mapSeq (· ++ xs.toArray))
theorem gather_tup {b : Addr} {xs : List Value} {R : List Value → Shared → Prop} (ht : s.heap.IsTuple b xs.toArray) (hz : xs.length ≤ sizeLine) (k : R xs { s with heap := gath s.heap xs }) : wpAny (model prog w) A (collect (.ref b)) R E s := by
  obtain ⟨u, e1, e2, m, e3⟩ := id ht
  have e4 : (s.heap.push (seqObj "list" #[] 0)).get? b = some u := Heap.get?_push_of_some _ e1
  have e5 : (s.heap.push (seqObj "list" #[] 0)).get? s.heap.objs.size = some (seqObj "list" #[] 0) := Heap.get?_push_size _ rfl
  unfold collect
  refine wpAny_bind (wpAny_runValue (codeAny_builtin entry_proto_collect' ?_))
  show wpAny _ _ (do again (.builtin "list.__iadd__" ⟨[← newList [], .ref b], []⟩)) _ _ s
  refine wpAny_bind (wpAny_newList (wpAny_pure ⟨Code.quiet_builtin _ (by decide +kernel), codeAny_builtin entry_list_iadd' ?_⟩))
  show wpAny _ _ (Builtin.List.listExtendWith (.ref s.heap.objs.size) (.ref b) (.ref s.heap.objs.size)) _ _ { s with heap := s.heap.push (seqObj "list" #[] 0) }
  unfold Builtin.List.listExtendWith
  have e6 : (Value.type "tuple" == Value.type "tuple") = true := by rfl
  refine wpAny_bind (wpAny_typeOf (T := "tuple") ⟨u, e4, e2⟩ ?_)
  rw [if_pos (by rw [e6]; simp)]
  refine wpAny_bind (listItems_at e4 e3 (wpAny_bind (listItems_at (xs := #[]) (n := 0) e5 rfl ?_)))
  rw [if_neg (by simp)]
  refine wpAny_bind (listUpdate_at (xs := #[]) (n := 0) e5 rfl (wpAny_pure ?_) (Nat.zero_le _) (by show (#[] ++ xs.toArray).size ≤ sizeLine + 1; simp only [Array.size_append, List.size_toArray, List.length_nil]; omega))
  show wpAny (model prog w) A (do let o ← load s.heap.objs.size; match o.data with | .seq ys _ => pure ys.toList | _ => unsupported "internal:collect") R E { s with heap := gath s.heap xs }
  refine wpAny_bind (wpAny_load (get?_update_seq e5 _) ?_)
  show wpAny _ _ (pure ((#[] : Array Value) ++ xs.toArray).toList) R E _
  rw [show ((#[] : Array Value) ++ xs.toArray).toList = xs by simp]
  exact wpAny_pure k
theorem sorted_tup {b : Addr} {xs : List Value} {lt : Value → Value → Bool} {R : Value → Shared → Prop} (O : SrtO.Swo lt) (ht : s.heap.IsTuple b xs.toArray) (hz : xs.length ≤ sizeLine)
    (hS : 2 ≤ xs.length → ∀ (g : Heap) (a : Addr), g.get? a = some (seqObj "list" xs.toArray 0) → (∀ c o, s.heap.get? c = some o → c ≠ a ∧ g.get? c = some o) → SrtO.SortableO prog w A.in1.in1 { s with heap := g } a xs lt)
    (h : ∀ (g : Heap) (p : Addr) (out : List Value) (c : Nat), SrtO.Srtd lt out → SrtO.Stb lt out xs → s.heap.objs.size ≤ p → (∀ c o, s.heap.get? c = some o → g.get? c = some o) → g.get? p = some (seqObj "list" out.toArray c) → R (.ref p) { s with heap := g }) :
    wpAny (model prog w) A (call (.builtin "sorted") [.ref b]) R E s := by
  have z : (gath s.heap xs).objs.size = s.heap.objs.size + 1 := by unfold gath; rw [Heap.size_update, size_push']
  have here : ((gath s.heap xs).push (seqObj "list" xs.toArray 0)).get? (s.heap.objs.size + 1) = some (seqObj "list" xs.toArray 0) := by rw [← z]; exact Heap.get?_push_size _ rfl
  have old : ∀ c o, s.heap.get? c = some o → c ≠ s.heap.objs.size + 1 ∧ ((gath s.heap xs).push (seqObj "list" xs.toArray 0)).get? c = some o := fun c o q => by
    have l1 : c < s.heap.objs.size := Heap.lt_size q
    refine ⟨Nat.ne_of_lt (Nat.lt_succ_of_lt l1), Heap.get?_push_of_some _ ?_⟩
    unfold gath
    rw [Heap.get?_update_ne _ _ _ _ (Nat.ne_of_lt l1)]
    exact Heap.get?_push_of_some _ q
  refine Calls.call_function_entry kind_sorted plain_sorted entry_sorted (args_sorted1 _) ?_
  unfold Builtin.«sorted»
  refine wpAny_bind (m := checkCount "sorted" 1 1 _) (wpAny_pure (wpAny_bind (gather_tup ht hz (wpAny_bind (wpAny_newList ?_ hz)))))
  show wpAny _ _ _ _ _ { s with heap := (gath s.heap xs).push (seqObj "list" xs.toArray 0) }
  show wpAny _ _ _ _ _ _
  rw [show (gath s.heap xs).objs.size = s.heap.objs.size + 1 from z]
  refine wpAny_bind (wpAny_holding (wpAny_call_entry slot_list_sort ⟨_, here, rfl⟩ entry_list_sort (SrtO.list_sort_ord O here hz (fun h2 => hS h2 _ _ here old) fun out so st => ⟨_, rfl, ?_⟩) (args_list_sort _)))
  obtain ⟨c, hc⟩ := sortedHeap_at (vs := xs) (out := out.toArray) here
  refine wpAny_pure ⟨_, rfl, h _ (s.heap.objs.size + 1) out c so st (Nat.le_succ _) (fun d o q => ?_) hc⟩
  obtain ⟨ne, q2⟩ := old d o q
  rw [sortedHeap_old ne (by rw [size_push', z]; exact Nat.lt_succ_of_lt (Nat.lt_succ_of_lt (Heap.lt_size q)))]
  exact q2
end
def dSortI : List D → M D
  | [.lst ds] => fun P => match intsD ds with | some bs => P (.lst ((isort bs).map .int)) | none => False
  | [.tup ds] => fun P => match intsD ds with | some bs => P (.lst ((isort bs).map .int)) | none => False
  | _ => stuck
section
variable {X : Cx}
theorem c_sortI : CallR X (.builtin "sorted") (rFC X.K dSortI) := by
  intro pins s σ H vs us Q I rv ⟨G, ds, P, b, hd, hf, k⟩
  unfold dSortI at hf
  split at hf
  · obtain ⟨v, rfl, h⟩ := hd.one_inv
    obtain ⟨a, xs, rfl, h1, h2⟩ := h.lst_inv b
    split at hf
    · rename_i bs hb
      have e := h2.intl hb
      subst e
      refine cr_sortedI pins s σ H _ us Q I rv ⟨a, bs, rfl, .of h1, fun ns p pm pw hp => ?_⟩
      rw [ints_eq pw isort_asc (pm.trans isort_perm.symm)]
      exact k _ p G _ hf (.newO b hp) hp (b.fresh hp) (.lst upd_same (RepL.ints_map _))
    · exact hf.elim
  · obtain ⟨v, rfl, h⟩ := hd.one_inv
    obtain ⟨a, xs, rfl, h1, h2⟩ := h.tup_inv b
    split at hf
    · rename_i bs hb
      have e := h2.intl hb
      subst e
      obtain ⟨its, rr, hT, hz⟩ := I.tuple h1
      rw [Vals.ref1 rv]
      have hi : IntsAre its bs := rr.ints
      refine sorted_tup SrtO.swo_int hT (by rw [← rr.length]; exact hz) (fun h2 g a' _ _ => SrtO.ints_sortable hi h2) fun g p out c so st hp kp hg => ?_
      obtain ⟨k1, k2, k3⟩ := SrtO.ints_out hi so st
      have hn : H p = none := I.hok.fresh hp
      have e2 : out.map SrtO.iv = isort bs := ints_eq k3 isort_asc (k2.trans isort_perm.symm)
      refine ⟨.ref p, upd H p (.lst ((out.map SrtO.iv).map V.int)), I.laid (t' := s.toks) kp hp ⟨?_, out, c, vals_of_ints k1, hg⟩, rfl, ?_⟩
      · rw [List.length_map, k2.length_eq]
        rw [List.length_map] at hz
        exact hz
      · rw [e2]
        exact k _ p G _ hf (.newO b hn) hn (b.fresh hn) (.lst upd_same (RepL.ints_map _))
    · exact hf.elim
  · exact hf.elim
end
/-! a name for a new list that is frozen at once -/
def sSetZ (i : Nat) (m : EM) : SM := fun E env => m env fun d => E.nx (frzS (setS env i (.ow d)) i)
theorem gs_setZ {X : Cx} {st : Stmt} (i : Nat) {m : EM} (h : GS X st (sSetO i m)) : GS X st (sSetZ i m) := ps_imp h fun Dn σ H ⟨G0, H0, G, env, E, ok, q, k⟩ =>
  ⟨G0, H0, G, env, { E with nx := fun e => E.nx (frzS e i) }, ok, q, ⟨fun e σ2 G2 H2 q2 o2 => by
    have q3 : E.nx (frzS e i) := q2
    clear q2
    unfold frzS at q3
    split at q3
    · rename_i d e2
      obtain ⟨G', _, ok'⟩ := o2.frz e2
      exact k.nx _ _ _ _ q3 ok'
    · exact k.nx _ _ _ _ q3 o2, k.rt, k.bk, k.ct⟩⟩
end G
set_option Elab.async false
set_option linter.all false
set_option maxRecDepth 100000
namespace G
open PySem PySem.Spec PyProof.Rows L2
/-! ### sorted(dict(rows)), each row a pair of a pair of ints and True -/
section
variable {P : Program} {w : World} {A : Around} {E : Value → Shared → Prop} {s : Shared}
theorem sorted_pairdict {d : Addr} {xs : List (List Int × Addr × Value)} {Q : Value → Shared → Prop} (D : s.heap.DictOfH (tupleKind (intKind P w)) d xs) (lo : (d == sysModules) = false) (hh : A.handled = none) (few : xs.length < 64) (h2 : ∀ x ∈ xs, ∃ a b : Int, x.1 = [a, b])
    (hQ : ∀ (h1 h2 : Heap) (tk : Nat) (p : Addr) (out : List Value) (c : Nat) (M : List (Addr × List Int)), (∀ b o, s.heap.get? b = some o → h1.get? b = some o) → (∀ b o, h1.get? b = some o → h2.get? b = some o) → h1.objs.size ≤ p →
      h2.get? p = some (seqObj "list" out.toArray c) → out = M.map (fun q => Value.ref q.1) → M.Perm (xs.map fun x => (x.2.1, x.1)) → (M.map fun q => pr q.2).Pairwise (fun x y => SrtO.lexB y x = false) → Q (.ref p) { s with heap := h2, toks := tk }) :
    wpAny (model P w) A (call (.builtin "sorted") [.ref d]) Q E s := by
  obtain ⟨es, ep, raw, sz, at_⟩ := D.raw
  have keys : ∀ x ∈ xs, IsTupleKey (intKind P w) s.heap x.1 x.2.1 := fun x hx => by
    obtain ⟨i, hi, e⟩ := List.getElem_of_mem hx
    obtain ⟨y, e1, _, _, e4⟩ := at_ i (by rw [sz]; exact hi)
    rw [List.getElem?_eq_getElem hi] at e1
    cases e1
    rw [← e]
    exact e4
  generalize eL : (xs.map fun x => (x.2.1, x.1)) = L at hQ
  have lenL : L.length = xs.length := by rw [← eL, List.length_map]
  have kL : ∀ q ∈ L, IsTupleKey (intKind P w) s.heap q.2 q.1 := fun q hq => by
    rw [← eL] at hq
    obtain ⟨x, hx, rfl⟩ := List.mem_map.mp hq
    exact keys x hx
  have pL : ∀ q ∈ L, ∃ a b : Int, q.2 = [a, b] := fun q hq => by
    rw [← eL] at hq
    obtain ⟨x, hx, rfl⟩ := List.mem_map.mp hq
    exact h2 x hx
  have one : ∀ q ∈ L, ∀ r ∈ L, r.1 = q.1 → r = q := fun q hq r hr e => Prod.ext e ((show IsTupleKey _ _ _ _ from e ▸ kL r hr).inj (kL q hq))
  refine Calls.call_function_entry kind_sorted plain_sorted entry_sorted (args_sorted1 _) ?_
  unfold Builtin.«sorted»
  refine wpAny_bind (m := checkCount "sorted" 1 1 _) (wpAny_pure ?_)
  refine wpAny_bind (PySem.W.kdu_collect (A := A.in1) (PySem.KdlSrc.rawDict (es := es) (ep := ep) lo) hh raw (by rw [sz, sizeLine_eq]; omega) fun h1 tk acc k1 ha => ?_)
  have ev : acc.toList = L.map fun q => Value.ref q.1 := by
    refine List.ext_getElem? fun i => ?_
    by_cases hi : i < xs.length
    · have hi2 : i < acc.size := by rw [ha.1, sz]; exact hi
      obtain ⟨hi3, e⟩ := ha.2 i _ (Array.getElem?_eq_getElem hi2)
      obtain ⟨y, e1, e2, _, _⟩ := at_ i hi3
      rw [Array.getElem?_toList, Array.getElem?_eq_getElem hi2, e, e2, ← eL, List.map_map, List.getElem?_map, e1]
      rfl
    · rw [List.getElem?_eq_none (by rw [Array.length_toList, ha.1, sz]; omega), List.getElem?_eq_none (by rw [List.length_map, lenL]; omega)]
  have hv : ∀ vs : List Value, vs = acc.toList → vs = L.map fun q => Value.ref q.1 := fun vs e => e.trans ev
  have lv : acc.toList.length < 64 := by rw [ev, List.length_map, lenL]; exact few
  have lz : acc.toList.length ≤ sizeLine := by rw [sizeLine_eq]; omega
  have old : ∀ b u, s.heap.get? b = some u → (h1.push (seqObj "list" acc.toList.toArray 0)).get? b = some u := fun b u e => Heap.get?_push_of_some _ (k1 b u e)
  refine wpAny_bind (wpAny_newList ?_ lz)
  have at1 : (h1.push (seqObj "list" acc.toList.toArray 0)).get? h1.objs.size = some (seqObj "list" acc.toList.toArray 0) := Heap.get?_push_size _ rfl
  have prs : ∀ v ∈ acc.toList, Srt.IsPair (h1.push (seqObj "list" acc.toList.toArray 0)) v (kv L v).1 (kv L v).2 := fun v hv => by
    rw [ev] at hv
    obtain ⟨q, hq, rfl⟩ := List.mem_map.mp hv
    obtain ⟨x, y, e⟩ := pL q hq
    rw [kv_ref (one q hq) hq]
    have k := kL q hq
    rw [e] at k ⊢
    exact pair_of (isT_keep k old)
  refine wpAny_bind (wpAny_holding (wpAny_call_entry (s := { s with heap := h1.push (seqObj "list" acc.toList.toArray 0), toks := tk }) PyProof.Rows.slot_list_sort ⟨_, at1, rfl⟩ PyProof.Rows.entry_list_sort
    (SrtO.list_sort_ord (SrtO.swo_lex (kv L)) at1 lz (fun l2 => SrtO.pairs_sortableO (s := { s with heap := h1.push (seqObj "list" acc.toList.toArray 0), toks := tk }) (by omega) prs fun u e => ?_) fun out so st => ⟨_, rfl, ?_⟩) (PyProof.Rows.args_list_sort _)))
  · have e' : some u = some (seqObj "list" acc.toList.toArray 0) := e.symm.trans at1
    cases e'
    exact fun c => absurd (Value.type.inj c) (by decide)
  · obtain ⟨c, hc⟩ := sortedHeap_at (vs := acc.toList) (out := out.toArray) at1
    obtain ⟨M, pM, eM⟩ := perm_lift (st.perm.trans (by rw [ev])) L rfl
    refine wpAny_pure ⟨_, rfl, hQ h1 _ tk h1.objs.size out c M k1 (fun b u e => ?_) (Nat.le_refl _) hc eM pM ?_⟩
    · have lt := Heap.lt_size e
      show (sortedHeap (h1.push (seqObj "list" acc.toList.toArray 0)) h1.objs.size acc.toList out.toArray).get? b = some u
      rw [sortedHeap_old (Nat.ne_of_lt lt) (by rw [size_push']; exact Nat.lt_succ_of_lt lt)]
      exact Heap.get?_push_of_some _ e
    · rw [eM] at so
      have so1 := List.pairwise_map.mp so
      rw [List.pairwise_map]
      refine List.Pairwise.imp_of_mem (fun {q r} hq hr h => ?_) so1
      have mq := pM.mem_iff.mp hq
      have mr := pM.mem_iff.mp hr
      have h' : SrtO.lexB (kv L (.ref r.1)) (kv L (.ref q.1)) = false := h
      rw [kv_ref (one q mq) mq, kv_ref (one r mr) mr] at h'
      exact h'
end
section
variable {X : Cx}
def tSD (K : PySem.W.Frag) (ta : TE) : TE := fun σ H Q => ta σ H fun x H1 => ∃ (l : Addr) (rows : List (Addr × Addr × List Int)), x = V.ref l ∧ SqL K H1 l (rows.map fun r => V.ref r.1) ∧ (∀ r ∈ rows, SqT K H1 r.1 [V.ref r.2.1, V.bl true]) ∧ (∀ r ∈ rows, SqT K H1 r.2.1 (r.2.2.map V.int)) ∧
  (∀ r ∈ rows, ∃ a b : Int, r.2.2 = [a, b]) ∧ rows.length < 64 ∧
  ∀ (M : List (Addr × List Int)) (p : Addr), (∀ m ∈ M, ∃ r ∈ rows, r.2 = m) → (∀ r ∈ rows, r.2.2 ∈ M.map (·.2)) → (M.map (·.2)).Nodup → (M.map fun q => pr q.2).Pairwise (fun x y => SrtO.lexB y x = false) → H1 p = none → Q (.ref p) (upd H1 p (.lst (M.map fun q => V.ref q.1)))
theorem putAt_keys {K : Type} [DecidableEq K] (k : K) (v : Value) : ∀ xs : List (K × Addr × Value), (xs.map (putAt k v)).map (·.1) = xs.map (·.1)
  | [] => rfl
  | x :: xs => by
    rw [List.map_cons, List.map_cons, List.map_cons, putAt_keys k v xs]
    congr 1
    unfold putAt
    split <;> rfl
theorem stored_keys {K : Type} [DecidableEq K] (xs : List (K × Addr × Value)) (k : K) (a : Addr) (v : Value) : ∀ y : K, y = k ∨ y ∈ xs.map (·.1) → y ∈ (storedH xs k a v).map (·.1) := by
  intro y hy
  unfold storedH
  split
  · rename_i h
    rw [putAt_keys]
    rcases hy with rfl | hy
    · unfold atKey at h
      rw [Option.isSome_map] at h
      obtain ⟨x, hx⟩ := Option.isSome_iff_exists.mp h
      exact List.mem_map.mpr ⟨x, List.mem_of_find?_eq_some hx, by simpa using List.find?_some hx⟩
    · exact hy
  · rw [List.map_append]
    rcases hy with rfl | hy
    · simp
    · exact List.mem_append_left _ hy
theorem storedAll_keys {K : Type} [DecidableEq K] : ∀ (ps acc : List (K × Addr × Value)) (y : K), y ∈ acc.map (·.1) ∨ y ∈ ps.map (·.1) → y ∈ (storedAllH acc ps).map (·.1)
  | [], acc, y, h => by
    rcases h with h | h
    · exact h
    · cases h
  | p :: ps, acc, y, h => by
    refine storedAll_keys ps (storedH acc p.1 p.2.1 p.2.2) y ?_
    rcases h with h | h
    · exact .inl (stored_keys _ _ _ _ y (.inr h))
    · rw [List.map_cons] at h
      rcases List.mem_cons.mp h with h | h
      · exact .inl (stored_keys _ _ _ _ y (.inl h))
      · exact .inr h
theorem pe_sortD {a : Expr} {ta : TE} {p p2 q pos : Pos} (hc : X.calm = true) (hu : X.A.units + 65 < cLine) (hg : Gl X "sorted") (hm : X.mg "sorted" = none) (hg2 : Gl X "dict") (hm2 : X.mg "dict" = none) (ha : PE X a ta)
    (na : starEach [a] X.env = (false, eval a X.env) :: starEach [] X.env := by rfl) : PE X (.Call (.Name "sorted" p) [.Call (.Name "dict" p2) [a] [] q] [] pos) (tSD X.K ta) := by
  refine ⟨fun pins s σ H Q I h => ?_⟩
  refine Call_ (ld_blt I hg hm PyProof.Rows.boot_sorted ?_)
  refine PyProof.Rows.callWith_builtin1 (PyProof.Rows.args_cons ?_ rfl) rfl rfl
  refine Call_ (ld_blt I hg2 hm2 PyProof.Rows.boot_dict ?_)
  refine PyProof.Rows.callWith_type1 (PyProof.Rows.args_cons (thn (ha.run pins s σ H _ I h) fun v s1 ⟨x, H1, I1, r1, q1⟩ => PyProof.Rows.args_nil ?_) na) na rfl
  obtain ⟨l, rows, rfl, hq, t1, t2, t3, h64, q1⟩ := q1
  cases r1
  obtain ⟨its, rv, pl, hz⟩ := I1.list hq
  have ei : its = rows.map fun r => Value.ref r.1 := by
    have := rv
    clear hz pl q1 h64 t1 t2 t3 hq
    induction rows generalizing its with
    | nil => cases rv; rfl
    | cons r rows ih =>
      cases rv with
      | cons r1 r2 => rw [List.map_cons, ih _ r2 r2]; cases r1; rfl
  obtain ⟨o, n, ho, hcl, hdd, hdat⟩ := pl
  have ht : ∀ r ∈ rows, s1.heap.IsTuple r.1 #[.ref r.2.1, .bool true] := fun r hr => by
    obtain ⟨its2, rv2, T2, _⟩ := I1.tuple (t1 r hr)
    cases rv2 with
    | cons a1 a2 =>
      cases a2 with
      | cons b1 b2 =>
        cases b2
        cases a1
        cases b1
        exact T2
  have keys : ∀ r ∈ rows, IsTupleKey (intKind X.prog X.w) s1.heap r.2.2 r.2.1 := fun r hr => I1.isT (t2 r hr)
  have fresh : ∀ b o, s1.heap.get? b = some o → b ≠ s1.heap.objs.size := fun b o e => Nat.ne_of_lt (Heap.lt_size e)
  refine PySem.call_dict_pairsH (knd := tupleKind (intKind X.prog X.w)) (ps := rows.map fun r => (r.2.2, r.2.1, Value.bool true)) (PySem.PairArg.list l its.toArray (fun j => (rows.getD j (0, 0, [])).1) (rows.map fun r => (Value.ref r.2.1, Value.bool true))) (I1.ok.hd hc) ?_ ?_ ?_ ?_ ?_ fun h' tk hD hk => ?_
  · show X.A.units + 1 + 1 < cLine
    omega
  · refine ⟨⟨o, n, ho, hcl, hdd, hdat⟩, by rw [ei]; simp, fun j k v hj => ?_⟩
    rw [List.getElem?_map] at hj
    obtain ⟨r, hr, e⟩ := Option.map_eq_some_iff.mp hj
    cases e
    have eg : rows.getD j (0, 0, []) = r := by rw [List.getD_eq_getElem?_getD, hr]; rfl
    refine ⟨?_, .inl ?_⟩
    · show _ = some (Value.ref (rows.getD j (0, 0, [])).1)
      rw [eg, ei, List.getElem?_toArray, List.getElem?_map, hr]; rfl
    · show s1.heap.IsTuple (rows.getD j (0, 0, [])).1 _
      rw [eg]
      exact ht r (List.mem_of_getElem? hr)
  · refine ⟨by simp, fun i key v hrel => ?_⟩
    have hrel' : (rows.map fun r => (Value.ref r.2.1, Value.bool true))[i]? = some (key, v) := hrel
    rw [List.getElem?_map] at hrel'
    obtain ⟨r, hr, e⟩ := Option.map_eq_some_iff.mp hrel'
    cases e
    exact ⟨r.2.2, r.2.1, by rw [List.getElem?_map, hr]; rfl, rfl⟩
  · intro h' k x hx
    obtain ⟨r, hr, rfl⟩ := List.mem_map.mp hx
    exact isT_keep (keys r hr) fun b o e => k b o (fresh b o e) (by simp) e
  · rw [List.length_map, sizeLine_eq]; omega
  · have I2 : Inv X pins σ H1 { s1 with heap := h', toks := tk } := I1.kept fun b o e => hk b o (by simp) e
    have few : (storedAllH [] (rows.map fun r => (r.2.2, r.2.1, Value.bool true))).length < 64 := by
      have := storedAllH_length (rows.map fun r => (r.2.2, r.2.1, Value.bool true)) []
      rw [List.length_map, List.length_nil] at this
      omega
    have src : ∀ x ∈ storedAllH [] (rows.map fun r => (r.2.2, r.2.1, Value.bool true)), ∃ r ∈ rows, r.2 = (x.2.1, x.1) :=
      storedAllH_keys (P := fun k b => ∃ r ∈ rows, r.2 = (b, k)) (fun x hx => by cases hx) fun x hx => by
        obtain ⟨r, hr, rfl⟩ := List.mem_map.mp hx
        exact ⟨r, hr, rfl⟩
    have nd : ((storedAllH [] (rows.map fun r => (r.2.2, r.2.1, Value.bool true))).map (·.1)).Nodup := by
      obtain ⟨_, _, _, _, _, _, _, _, z⟩ := hD
      exact z
    refine PyProof.Rows.args_nil ?_
    refine sorted_pairdict (s := { s1 with heap := h', toks := tk }) hD (beq_eq_false_iff_ne.mpr (Nat.ne_of_gt I1.big)) (I1.ok.hd hc) few (fun x hx => ?_) fun g1 g2 tk2 b out c M k1 k2 hb hg e pm pw => ?_
    · obtain ⟨r, hr, e⟩ := src x hx
      obtain ⟨a, d, e2⟩ := t3 r hr
      exact ⟨a, d, by rw [← e2, e]⟩
    · have I3 : Inv X pins σ H1 { s1 with heap := g1, toks := tk2 } := I2.kept k1
      have hn : H1 b = none := I3.hok.fresh hb
      have hv : Vals (M.map fun q => V.ref q.1) out := by rw [e]; exact vals_of_refs M
      have lM : M.length < 64 := by rw [pm.length_eq, List.length_map]; exact few
      have J : Inv X pins σ (upd H1 b (.lst (M.map fun q => V.ref q.1))) { s1 with heap := g2, toks := tk2 } :=
        I3.laid (t' := tk2) k2 hb ⟨by rw [List.length_map, sizeLine_eq]; omega, out, c, hv, hg⟩
      refine ⟨.ref b, _, J, rfl, q1 M b (fun m hm => ?_) (fun r hr => ?_) ?_ pw hn⟩
      · obtain ⟨x, hx, rfl⟩ := List.mem_map.mp (pm.mem_iff.mp hm)
        exact src x hx
      · have h1 := storedAll_keys (rows.map fun r => (r.2.2, r.2.1, Value.bool true)) [] r.2.2 (.inr (List.mem_map.mpr ⟨(r.2.2, r.2.1, Value.bool true), List.mem_map.mpr ⟨r, hr, rfl⟩, rfl⟩))
        obtain ⟨x, hx, e5⟩ := List.mem_map.mp h1
        exact List.mem_map.mpr ⟨(x.2.1, x.1), pm.mem_iff.mpr (List.mem_map.mpr ⟨x, hx, rfl⟩), e5⟩
      · refine (pm.map (·.2)).nodup_iff.mpr ?_
        rw [List.map_map]
        exact nd
end
end G
namespace G
open PySem PySem.Spec PyProof.Rows L2
def rowsP : List D → Option (List (Int × Int))
  | [] => some []
  | .tup [.tup [.int x, .int y], .bl true] :: r => (rowsP r).map ((x, y) :: ·)
  | _ :: _ => none
theorem rowsP_map : ∀ ps : List (Int × Int), rowsP (ps.map fun p => D.tup [pD p, .bl true]) = some ps
  | [] => rfl
  | p :: r => by show (rowsP (r.map fun p => D.tup [pD p, .bl true])).map _ = _; rw [rowsP_map r]; rfl
theorem RepL.rowsd {K : PySem.W.Frag} {G : Hp} : ∀ {ds : List D} {vs : List V} {ps : List (Int × Int)}, RepL K G ds vs → rowsP ds = some ps →
    ∃ rows : List (Addr × Addr × List Int), vs = rows.map (fun r => V.ref r.1) ∧ (∀ r ∈ rows, G r.1 = some (.tup [V.ref r.2.1, V.bl true]) ∧ G r.2.1 = some (.tup (r.2.2.map V.int))) ∧ rows.map (·.2.2) = ps.map fun p => [p.1, p.2]
  | _, _, _, .nil, h => by cases h; exact ⟨[], rfl, (fun _ h => nomatch h), rfl⟩
  | d :: ds, _, ps, .cons hr r, h => by
    unfold rowsP at h
    split at h
    · rename_i e0; cases e0
    · rename_i x y r0 e0
      cases e0
      obtain ⟨qs, h1, rfl⟩ := Option.map_eq_some_iff.mp h
      obtain ⟨rows, e1, e2, e3⟩ := r.rowsd h1
      cases hr with
      | tup ha ra =>
        cases ra with
        | cons ra1 ra =>
          cases ra with
          | cons rb1 rb =>
            cases rb
            cases rb1
            cases ra1 with
            | @tup _ a2 _ hb rc =>
              cases rc with
              | cons rc1 rc =>
                cases rc1
                cases rc with
                | cons rd1 rd =>
                  cases rd1
                  cases rd
                  refine ⟨(_, a2, [x, y]) :: rows, by rw [e1]; rfl, fun p hp => ?_, by rw [List.map_cons, List.map_cons, e3]⟩
                  rcases List.mem_cons.mp hp with rfl | hp
                  · exact ⟨ha, hb⟩
                  · exact e2 p hp
    · cases h
/-- sorted(dict(xs)), xs a list of rows (a pair of ints, True) -/
def dSDict : D → M D
  | .lst ds => fun P => match rowsP ds with | some ps => ps.length < 64 ∧ P (.lst ((ssort ps).map pD)) | none => False
  | _ => stuck
section
variable {X : Cx} {e : Expr} {m : EM}
theorem fe_sdict {p p2 pos pos2 : Pos} (hc : X.calm = true) (hu : X.A.units + 65 < cLine) (z1 : X.mg "sorted" = none) (z2 : X.mg "dict" = none) (ha : BE X e m) (g1 : Gl X "sorted" := by rfl) (g2 : Gl X "dict" := by rfl)
    (na : starEach [e] X.env = (false, eval e X.env) :: starEach [] X.env := by rfl) :
    FE X (.Call (.Name "sorted" p) [.Call (.Name "dict" p2) [e] [] pos2] [] pos) (eUn dSDict m) :=
  pe_imp (pe_sortD hc hu g1 z1 g2 z2 ha na) fun σ H Q ⟨G0, H0, G, env, P, ok, hm, k⟩ => by
    refine ⟨G0, H0, G, env, _, ok, hm, fun d v G1 H1 hP r1 q1 => ?_⟩
    unfold dSDict at hP
    split at hP
    · obtain ⟨l, xs, rfl, h1, h2⟩ := q1.lst_inv r1.b
      split at hP
      · rename_i ps hp
        obtain ⟨h64, hP⟩ := hP
        obtain ⟨rows, rfl, e2, e3⟩ := h2.rowsd hp
        have two : ∀ q ∈ rows, ∃ x y : Int, q.2.2 = [x, y] := fun q hq => by
          have : q.2.2 ∈ rows.map (·.2.2) := List.mem_map_of_mem (f := fun r : Addr × Addr × List Int => r.2.2) hq
          rw [e3] at this
          obtain ⟨p, _, e⟩ := List.mem_map.mp this
          exact ⟨_, _, e.symm⟩
        have nk : rows.length = ps.length := by have := congrArg List.length e3; simpa using this
        refine ⟨l, rows, rfl, .of h1, fun q hq => .of (r1.b _ _ (e2 q hq).1), fun q hq => .of (r1.b _ _ (e2 q hq).2), two, by omega, fun M b mem all nd pw hb => ?_⟩
        have row : ∀ q ∈ M, (∃ x y : Int, q.2 = [x, y]) ∧ G1 q.1 = some (.tup (q.2.map V.int)) := fun q hq => by
          obtain ⟨r, hr, rfl⟩ := mem q hq
          exact ⟨two r hr, (e2 r hr).2⟩
        have eM : ∀ M' : List (Addr × List Int), (∀ q ∈ M', (∃ x y : Int, q.2 = [x, y]) ∧ G1 q.1 = some (.tup (q.2.map V.int))) → RepL X.K G1 ((M'.map fun q => pr q.2).map pD) (M'.map fun q => V.ref q.1) := fun M' => by
          induction M' with
          | nil => exact fun _ => .nil
          | cons q M' ih =>
            intro hq
            obtain ⟨⟨x, y, e⟩, ht⟩ := hq q List.mem_cons_self
            rw [e] at ht
            refine .cons ?_ (ih fun r hr => hq r (List.mem_cons_of_mem _ hr))
            show Rep X.K G1 (pD (pr q.2)) (V.ref q.1)
            rw [e]
            exact .tup ht (.cons (.int x) (.cons (.int y) .nil))
        have asc : Asc (M.map fun q => pr q.2) := by
          rw [Asc, List.pairwise_map]
          rw [List.pairwise_map] at pw
          have nd1 : M.Pairwise (fun q r => q.2 ≠ r.2) := List.pairwise_map.mp nd
          refine List.Pairwise.imp_of_mem (fun {q r} hq hr hh => ?_) (pw.and nd1)
          obtain ⟨x, y, e⟩ := (row q hq).1
          obtain ⟨x', y', e'⟩ := (row r hr).1
          obtain ⟨z1, z2⟩ := hh
          rw [e, e'] at z1 z2
          have z3 := SrtO.lexB_no.mp z1
          refine lx_iff.mpr ?_
          have z4 : ¬ (x = x' ∧ y = y') := fun ⟨a, b⟩ => z2 (by rw [a, b])
          simp only [pr, List.getD_cons_zero, List.getD_cons_succ, e, e'] at z3 ⊢
          omega
        have em : (M.map fun q => pr q.2) = ssort ps := ssort_eq asc fun q => by
          constructor
          · intro hq
            obtain ⟨r, hr, rfl⟩ := List.mem_map.mp hq
            obtain ⟨r', hr', e5⟩ := mem r hr
            have : r'.2.2 ∈ rows.map (·.2.2) := List.mem_map_of_mem (f := fun r : Addr × Addr × List Int => r.2.2) hr'
            rw [e3] at this
            obtain ⟨p, hp, e⟩ := List.mem_map.mp this
            rw [← e5, ← e]
            exact hp
          · intro hq
            have : [q.1, q.2] ∈ rows.map (·.2.2) := by rw [e3]; exact List.mem_map.mpr ⟨q, hq, rfl⟩
            obtain ⟨r, hr, e⟩ := List.mem_map.mp this
            obtain ⟨r', hr', e'⟩ := List.mem_map.mp (all r hr)
            refine List.mem_map.mpr ⟨r', hr', ?_⟩
            show pr r'.2 = q
            have e'' : r'.2 = r.2.2 := e'
            have e4 : r.2.2 = [q.1, q.2] := e
            rw [e'', e4]
            rfl
        refine k _ b G1 _ hP (r1.trans (.newO r1.b hb)) (r1.h.fresh hb) (r1.b.fresh hb) ?_
        rw [← em]
        exact .lst upd_same (eM M row)
      · exact hP.elim
    · exact hP.elim
end
end G
set_option Elab.async false
set_option linter.all false
set_option maxRecDepth 100000
namespace G
/-! ### loops and comprehensions, by what they do -/
theorem forW_ind {g : GM} {S : SM} {E : DE} (I : List D → Env → Prop) (hd : ∀ env, I [] env → E.nx env)
    (hs : ∀ d ds env (K : Env → Prop), I (d :: ds) env → (∀ e, I ds e → K e) → g d env fun env' => S { nx := K, ct := K, bk := E.nx, rt := E.rt } env') : ∀ ds env, I ds env → forW g S ds E env := by
  intro ds
  induction ds with
  | nil => intro env h; exact hd env h
  | cons d ds ih => intro env h; exact hs d ds env _ h fun e he => ih e he
/-- a comprehension whose turn keeps what p says and makes f of it -/
theorem lc_pure {g : GM} {t : Env → M Bool} {m : EM} {env : Env} (p : D → Bool) (f : D → D) {Q : List D → Prop} : ∀ (ds : List D), (∀ d ∈ ds, ∀ (K : D → Prop) (K' : Prop), (p d = true → K (f d)) → (p d = false → K') → g d env fun env2 => t env2 fun c => match c with | true => m env2 K | false => K') →
    Q ((ds.filter p).map f) → lcW g t m env ds Q := by
  intro ds
  induction ds generalizing Q with
  | nil => intro _ h; exact h
  | cons d ds ih =>
    intro hs h
    refine hs d List.mem_cons_self _ _ (fun hp => ?_) (fun hp => ?_)
    · refine ih (fun d hd => hs d (List.mem_cons_of_mem _ hd)) ?_
      rw [List.filter_cons_of_pos hp] at h
      exact h
    · refine ih (fun d hd => hs d (List.mem_cons_of_mem _ hd)) ?_
      rw [List.filter_cons_of_neg (by rw [hp]; exact Bool.false_ne_true)] at h
      exact h
theorem lc_map {g : GM} {m : EM} {env : Env} (f : D → D) {Q : List D → Prop} (ds : List D) (hs : ∀ d ∈ ds, ∀ (K : D → Prop), K (f d) → g d env fun env2 => m env2 K) (h : Q (ds.map f)) : lcW g tTrue m env ds Q := by
  refine lc_pure (fun _ => true) f ds (fun d hd K K' h1 _ => hs d hd K (h1 rfl)) ?_
  rwa [List.filter_eq_self.mpr (fun _ _ => rfl)]
/-- items drawn: each one has R -/
theorem lc_rel {g : GM} {m : EM} {env : Env} (R : D → Prop) {Q : List D → Prop} : ∀ (ds : List D), (∀ d ∈ ds, ∀ (K : D → Prop), (∀ y, R y → K y) → g d env fun env2 => m env2 K) → (∀ ys : List D, ys.length = ds.length → (∀ y ∈ ys, R y) → Q ys) → lcW g tTrue m env ds Q := by
  intro ds
  induction ds generalizing Q with
  | nil => intro _ h; exact h [] rfl (by intro y hy; cases hy)
  | cons d ds ih =>
    intro hs h
    refine hs d List.mem_cons_self _ fun y hy => ?_
    refine ih (fun d hd => hs d (List.mem_cons_of_mem _ hd)) fun ys hl hr => h (y :: ys) (by rw [List.length_cons, List.length_cons, hl]) fun z hz => ?_
    rcases List.mem_cons.mp hz with rfl | hz
    · exact hy
    · exact hr z hz
/-! ### typed data -/
theorem boolsD_map (bs : List Bool) : boolsD (bs.map D.bl) = some bs := by
  induction bs with
  | nil => rfl
  | cons b r ih => rw [List.map_cons, boolsD, ih]; rfl
theorem intsD_map (bs : List Int) : intsD (bs.map D.int) = some bs := by
  induction bs with
  | nil => rfl
  | cons b r ih => rw [List.map_cons, intsD, ih]; rfl
theorem strsD_map (bs : List (List Nat)) : strsD (bs.map D.str) = some bs := by
  induction bs with
  | nil => rfl
  | cons b r ih => rw [List.map_cons, strsD, ih]; rfl
theorem okD_int {n : Nat} {i : Int} : okD n (.int i) = true := by cases n <;> rfl
theorem okD_str {n : Nat} {s : List Nat} : okD n (.str s) = true := by cases n <;> rfl
theorem okD_bl {n : Nat} {s : Bool} : okD n (.bl s) = true := by cases n <;> rfl
theorem okD_non {n : Nat} : okD n .non = true := by cases n <;> rfl
/-- a place: two numbers and a way -/
structure Pl where
  r : Int
  u : Int
  w : Int
  deriving DecidableEq
def Pl.d (p : Pl) : D := .tup [.int p.r, .int p.u, .int p.w]
def Pl.ok (p : Pl) : Prop := 0 ≤ p.w ∧ p.w ≤ 3
def dx (w : Int) : Int := if w = 0 then 1 else if w = 2 then -1 else 0
def dy (w : Int) : Int := if w = 1 then 1 else if w = 3 then -1 else 0
/-- the place behind a piece: s 115, l 108, r 114 -/
def nxt (p : Pl) (c : Nat) : Pl :=
  if c = 115 then ⟨p.r + dx p.w, p.u + dy p.w, p.w⟩
  else ⟨p.r + dx p.w + dx ((p.w + if c = 108 then 1 else 3) % 4), p.u + dy p.w + dy ((p.w + if c = 108 then 1 else 3) % 4), (p.w + if c = 108 then 1 else 3) % 4⟩
def placesFrom (p : Pl) : List Nat → List Pl
  | [] => [p]
  | c :: s => p :: placesFrom (nxt p c) s
def endFrom (p : Pl) (s : List Nat) : Pl := s.foldl nxt p
def o0 : Pl := ⟨0, 0, 0⟩
theorem Pl.way {p : Pl} (h : p.ok) : p.w = 0 ∨ p.w = 1 ∨ p.w = 2 ∨ p.w = 3 := by obtain ⟨h1, h2⟩ := h; omega
theorem nxt_ok {p : Pl} (h : p.ok) (c : Nat) : (nxt p c).ok := by
  unfold nxt Pl.ok at *
  split
  · exact h
  · exact ⟨Int.emod_nonneg _ (by omega), by have := Int.emod_lt_of_pos (p.w + if c = 108 then 1 else 3) (show (0 : Int) < 4 by omega); simp only at *; omega⟩
theorem endFrom_ok {p : Pl} (h : p.ok) : ∀ s, (endFrom p s).ok := by
  intro s
  induction s generalizing p with
  | nil => exact h
  | cons c s ih => exact ih (nxt_ok h c)
theorem places_last (p : Pl) : ∀ s : List Nat, (placesFrom p s).getLast? = some (endFrom p s) := by
  intro s
  induction s generalizing p with
  | nil => rfl
  | cons c s ih =>
    rw [placesFrom]
    cases s with
    | nil => rfl
    | cons c2 s => exact ih (nxt p c)
theorem places_len (p : Pl) : ∀ s : List Nat, (placesFrom p s).length = s.length + 1 := by
  intro s
  induction s generalizing p with
  | nil => rfl
  | cons c s ih => rw [placesFrom, List.length_cons, ih]; rfl
theorem atD_last {α : Type} {xs : List α} {x : α} (h : xs.getLast? = some x) : atD xs (-1) = some x := by
  have hn : xs ≠ [] := by intro z; subst z; cases h
  have hl : 0 < xs.length := List.length_pos_iff.mpr hn
  unfold atD ixD
  rw [if_neg (by decide), if_pos (by omega)]
  rw [List.getLast?_eq_getElem?] at h
  rw [show (-1 + (xs.length : Int)).toNat = xs.length - 1 by omega]
  exact h
/-- a piece's code; a word -/
def isPc (c : Nat) : Bool := c == 115 || (c == 108 || c == 114)
def isW (s : List Nat) : Bool := decide (s.length ≤ 60) && s.all isPc
def isR (s : List Nat) : Bool := isW s && (decide (s ≠ []) && decide (endFrom o0 s = o0))
end G
set_option Elab.async false
set_option linter.all false
set_option maxRecDepth 100000
namespace G
open PySem PySem.Spec PyProof.Rows L2
/-! ### zip and enumerate -/
def zipD (ds es : List D) : List D := List.zipWith (fun x y => D.tup [x, y]) ds es
def enumD (ds : List D) : List D := (List.range ds.length).zipWith (fun (i : Nat) d => D.tup [.int i, d]) ds
theorem zipD_get {ds es : List D} {i : Nat} {d : D} (h : (zipD ds es)[i]? = some d) : ∃ x y, ds[i]? = some x ∧ es[i]? = some y ∧ d = .tup [x, y] := by
  unfold zipD at h
  rw [List.getElem?_zipWith] at h
  cases hx : ds[i]? with
  | none => rw [hx] at h; cases h
  | some x =>
    cases hy : es[i]? with
    | none => rw [hx, hy] at h; cases h
    | some y => rw [hx, hy] at h; cases h; exact ⟨x, y, rfl, rfl, rfl⟩
theorem enumD_get {ds : List D} {i : Nat} {d : D} (h : (enumD ds)[i]? = some d) : ∃ x, ds[i]? = some x ∧ d = .tup [.int i, x] := by
  unfold enumD at h
  rw [List.getElem?_zipWith] at h
  cases hx : ds[i]? with
  | none => rw [hx] at h; cases hr : (List.range ds.length)[i]? <;> rw [hr] at h <;> cases h
  | some x =>
    have hi := (List.getElem?_eq_some_iff.mp hx).1
    rw [List.getElem?_range hi, hx] at h
    cases h
    exact ⟨x, rfl, rfl⟩
section
variable {K : PySem.W.Frag} {G Hs : Hp} {a b : Addr} {ds es : List D} {vs us : List V}
theorem it_zl (h1 : SqL K Hs a vs) (h2 : SqL K Hs b us) (r1 : RepL K G ds vs) (r2 : RepL K G es us) : ItOk K G Hs (Itz K a b) (zipD ds es) :=
  ⟨fun i d hd G' H' e1 e2 e3 => by
    obtain ⟨x, y, hx, hy, rfl⟩ := zipD_get hd
    obtain ⟨v, hv, rx⟩ := r1.get hx
    obtain ⟨u, hu, ry⟩ := r2.get hy
    refine ⟨⟨vs, us, v, u, ex_l e2 h1, ex_l e2 h2, hv, hu⟩, fun z H'' ⟨T, x', y', hz, hn, hH, p1, p2⟩ => ?_⟩
    subst hz hH
    have ex : v = x' := Option.some.inj (hv.symm.trans (p1 vs (ex_l e2 h1)))
    have ey : u = y' := Option.some.inj (hu.symm.trans (p2 us (ex_l e2 h2)))
    subst ex ey
    exact ⟨upd G' T (.tup [v, u]), .new e3 hn, .tup upd_same (.cons (rx.mono (e1.trans (.new (e3.fresh hn)))) (.cons (ry.mono (e1.trans (.new (e3.fresh hn)))) .nil))⟩, fun i G' H' hl e1 e2 e3 => by
    refine ⟨vs, us, ex_l e2 h1, ex_l e2 h2, ?_⟩
    unfold zipD at hl
    rw [List.length_zipWith, r1.len, r2.len] at hl
    omega⟩
theorem it_zt (h1 : SqT K Hs a vs) (h2 : SqT K Hs b us) (r1 : RepL K G ds vs) (r2 : RepL K G es us) : ItOk K G Hs (RZ.ItzT K a b) (zipD ds es) :=
  ⟨fun i d hd G' H' e1 e2 e3 => by
    obtain ⟨x, y, hx, hy, rfl⟩ := zipD_get hd
    obtain ⟨v, hv, rx⟩ := r1.get hx
    obtain ⟨u, hu, ry⟩ := r2.get hy
    refine ⟨⟨vs, us, v, u, ex_t e2 h1, ex_t e2 h2, hv, hu⟩, fun z H'' ⟨T, x', y', hz, hn, hH, p1, p2⟩ => ?_⟩
    subst hz hH
    have ex : v = x' := Option.some.inj (hv.symm.trans (p1 vs (ex_t e2 h1)))
    have ey : u = y' := Option.some.inj (hu.symm.trans (p2 us (ex_t e2 h2)))
    subst ex ey
    exact ⟨upd G' T (.tup [v, u]), .new e3 hn, .tup upd_same (.cons (rx.mono (e1.trans (.new (e3.fresh hn)))) (.cons (ry.mono (e1.trans (.new (e3.fresh hn)))) .nil))⟩, fun i G' H' hl e1 e2 e3 => by
    refine ⟨vs, us, ex_t e2 h1, ex_t e2 h2, ?_⟩
    unfold zipD at hl
    rw [List.length_zipWith, r1.len, r2.len] at hl
    omega⟩
theorem it_en (h1 : SqL K Hs a vs) (r1 : RepL K G ds vs) : ItOk K G Hs (Ite K a) (enumD ds) :=
  ⟨fun i d hd G' H' e1 e2 e3 => by
    obtain ⟨x, hx, rfl⟩ := enumD_get hd
    obtain ⟨v, hv, rx⟩ := r1.get hx
    refine ⟨⟨vs, v, ex_l e2 h1, hv⟩, fun z H'' ⟨T, x', hz, hn, hH, p1⟩ => ?_⟩
    subst hz hH
    have ex : v = x' := Option.some.inj (hv.symm.trans (p1 vs (ex_l e2 h1)))
    subst ex
    exact ⟨upd G' T (.tup [.int (i : Nat), v]), .new e3 hn, .tup upd_same (.cons (.int _) (.cons (rx.mono (e1.trans (.new (e3.fresh hn)))) .nil))⟩, fun i G' H' hl e1 e2 e3 => by
    refine ⟨vs, ex_l e2 h1, ?_⟩
    unfold enumD at hl
    rw [List.length_zipWith, List.length_range, r1.len] at hl
    omega⟩
end
def zq (PL : List D → Prop) : List D → Prop := fun ds => match ds with | [.lst xs, .lst ys] => PL (zipD xs ys) | [.tup xs, .tup ys] => PL (zipD xs ys) | _ => False
def eq1 (PL : List D → Prop) : List D → Prop := fun ds => match ds with | [.lst xs] => PL (enumD xs) | _ => False
def iZipm (ms : Env → M (List D)) : Env → M (List D) := fun env PL => ms env (zq PL)
def iEnm (ms : Env → M (List D)) : Env → M (List D) := fun env PL => ms env (eq1 PL)
section
variable {X : Cx} {e c : Expr} {pos tpos p : Pos} {elts : List Expr} {kk : Nat} {ms : Env → M (List D)}
theorem bi_zip (hm : X.mg "zip" = none) (ha : BA X [e, c] ms) (hg : Gl X "zip" := by rfl) (hs : starEach [e, c] X.env = (false, eval e X.env) :: starEach [c] X.env := by rfl) (hpl : (backTo pos (starEach [c] X.env)).any (·.1) = false := by rfl) :
    BI X (.Tuple elts kk tpos) (.Call (.Name "zip" p) [e, c] [] pos) (iZipm ms) :=
  pi_imp (RZ.pi_zipA hg hm ha hs hpl) fun σ H R ⟨G0, H0, G, env, P, ok, q, k⟩ => ⟨G0, H0, G, env, _, ok, q, fun ds vs G' H' p r y => by
    unfold zq at p
    split at p
    · obtain ⟨v, w, rfl, h1, h2⟩ := y.two_inv
      obtain ⟨a, xs, rfl, a1, a2⟩ := h1.lst_inv r.b
      obtain ⟨b, ys, rfl, b1, b2⟩ := h2.lst_inv r.b
      exact ⟨a, b, xs, ys, rfl, .inl ⟨.of a1, .of b1, k _ _ _ _ p r (it_zl (.of a1) (.of b1) a2 b2)⟩⟩
    · obtain ⟨v, w, rfl, h1, h2⟩ := y.two_inv
      obtain ⟨a, xs, rfl, a1, a2⟩ := h1.tup_inv r.b
      obtain ⟨b, ys, rfl, b1, b2⟩ := h2.tup_inv r.b
      exact ⟨a, b, xs, ys, rfl, .inr ⟨a1, b1, k _ _ _ _ p r (it_zt a1 b1 a2 b2)⟩⟩
    · exact p.elim⟩
theorem bi_enum (hm : X.mg "enumerate" = none) (ha : BA X [e] ms) (hg : Gl X "enumerate" := by rfl) (hs : starEach [e] X.env = [(false, eval e X.env)] := by rfl) :
    BI X (.Tuple elts kk tpos) (.Call (.Name "enumerate" p) [e] [] pos) (iEnm ms) :=
  pi_imp (pi_enum hg hm ha hs) fun σ H R ⟨G0, H0, G, env, P, ok, q, k⟩ => ⟨G0, H0, G, env, _, ok, q, fun ds vs G' H' p r y => by
    unfold eq1 at p
    split at p
    · obtain ⟨v, rfl, h1⟩ := y.one_inv
      obtain ⟨a, xs, rfl, a1, a2⟩ := h1.lst_inv r.b
      exact ⟨a, xs, rfl, .of a1, k _ _ _ _ p r (it_en (.of a1) a2)⟩
    · exact p.elim⟩
end
end G
namespace G
open PySem PySem.Spec PyProof.Rows L2
theorem up_s : Unicode.upperOf 115 = [83] := by decide +kernel
theorem up_l : Unicode.upperOf 108 = [76] := by decide +kernel
theorem up_r : Unicode.upperOf 114 = [82] := by decide +kernel
theorem up_pc {c : Nat} (h : isPc c = true) : Unicode.upperOf c = [c - 32] := by
  have h' : c = 115 ∨ c = 108 ∨ c = 114 := by simpa [isPc] using h
  rcases h' with rfl | rfl | rfl
  · exact up_s
  · exact up_l
  · exact up_r
theorem upper_eq {s : List Nat} (h : s.all isPc = true) : Txt.upper ⟨s.toArray⟩ = ⟨(s.map fun c => c - 32).toArray⟩ := by
  have e := PyProof.Rows.placed_single (⟨s.toArray⟩ : Str) (fun _ c => Unicode.upperOf c) (fun c => c - 32) (fun i c hc => up_pc (List.all_eq_true.mp h c (List.mem_of_getElem? hc)))
  show (⟨placed ⟨s.toArray⟩ fun _ c => Unicode.upperOf c⟩ : Str) = _
  rw [e]
  simp
/-- s.upper(), s a word of pieces -/
def dUpper : D → M D
  | .str s => fun P => (s.all isPc = true ∧ s.length ≤ 1000) ∧ P (.str (s.map fun c => c - 32))
  | _ => stuck
section
variable {X : Cx} {e : Expr} {m : EM}
theorem ge_upper {apos pos : Pos} (ha : BE X e m) (hbase : attributeBase e "upper" X.env (eval e X.env) = eval e X.env := by rfl) (hline : (apos.endLine == pos.line) = true := by rfl) : GE X (.Call (.Attribute e "upper" apos) [] [] pos) (eUn dUpper m) :=
  pe_imp (pe_upper ha hbase hline) fun σ H Q ⟨G0, H0, G, env, P, ok, hm, k⟩ => by
    refine ⟨G0, H0, G, env, _, ok, hm, fun d v G1 H1 hP r1 q1 => ?_⟩
    unfold dUpper at hP
    split at hP
    · obtain ⟨rfl, ho⟩ := q1.str_inv
      obtain ⟨⟨h1, h2⟩, hP⟩ := hP
      rename_i s
      refine ⟨⟨_, rfl⟩, _, rfl, rfl, by show s.toArray.size ≤ _; rw [List.size_toArray]; omega, ?_⟩
      rw [upper_eq h1]
      refine k _ _ _ _ hP r1 (.str _ ?_)
      unfold sOk
      rw [List.all_map]
      refine List.all_eq_true.mpr fun c hc => ?_
      have h' : c = 115 ∨ c = 108 ∨ c = 114 := by simpa [isPc] using List.all_eq_true.mp h1 c hc
      exact decide_eq_true (by show c - 32 < 1114112; omega)
    · exact hP.elim
end
end G
set_option Elab.async false
set_option linter.all false
set_option maxRecDepth 100000
namespace G
open PySem PySem.Spec PyProof.Rows L2
/-! ### sorted(set(ints)) of a list -/
/-- the members in ascending order, each once -/
def insU (x : Int) : List Int → List Int
  | [] => [x]
  | y :: r => if x < y then x :: y :: r else if x = y then y :: r else y :: insU x r
def usort (ns : List Int) : List Int := ns.foldr insU []
theorem mem_insU {x k : Int} : ∀ {l : List Int}, k ∈ insU x l ↔ k = x ∨ k ∈ l
  | [] => by simp [insU]
  | y :: r => by
    unfold insU
    by_cases h : x < y
    · rw [if_pos h]; simp
    · rw [if_neg h]
      by_cases h2 : x = y
      · rw [if_pos h2]; subst h2; simp
      · rw [if_neg h2, List.mem_cons, mem_insU, List.mem_cons]
        constructor
        · rintro (a | a | a)
          · exact .inr (.inl a)
          · exact .inl a
          · exact .inr (.inr a)
        · rintro (a | a | a)
          · exact .inr (.inl a)
          · exact .inl a
          · exact .inr (.inr a)
theorem mem_usort {k : Int} : ∀ {l : List Int}, k ∈ usort l ↔ k ∈ l
  | [] => Iff.rfl
  | x :: r => by
    show k ∈ insU x (usort r) ↔ _
    rw [mem_insU, mem_usort, List.mem_cons]
theorem insU_asc {x : Int} : ∀ {l : List Int}, l.Pairwise (· < ·) → (insU x l).Pairwise (· < ·)
  | [], _ => List.pairwise_singleton _ _
  | y :: r, h => by
    obtain ⟨h1, h2⟩ := List.pairwise_cons.mp h
    unfold insU
    by_cases hx : x < y
    · rw [if_pos hx]
      refine List.pairwise_cons.mpr ⟨fun k hk => ?_, h⟩
      rcases List.mem_cons.mp hk with rfl | hk
      · exact hx
      · have := h1 k hk; omega
    · rw [if_neg hx]
      by_cases h3 : x = y
      · rw [if_pos h3]; exact h
      · rw [if_neg h3]
        refine List.pairwise_cons.mpr ⟨fun k hk => ?_, insU_asc h2⟩
        rcases mem_insU.mp hk with rfl | hk
        · omega
        · exact h1 k hk
theorem usort_asc : ∀ {l : List Int}, (usort l).Pairwise (· < ·)
  | [] => .nil
  | _ :: r => insU_asc (usort_asc (l := r))
theorem asc_ext : ∀ {l m : List Int}, l.Pairwise (· < ·) → m.Pairwise (· < ·) → (∀ k, k ∈ l ↔ k ∈ m) → l = m
  | [], [], _, _, _ => rfl
  | [], y :: r, _, _, h => absurd ((h y).mpr List.mem_cons_self) (by simp)
  | x :: l, [], _, _, h => absurd ((h x).mp List.mem_cons_self) (by simp)
  | x :: l, y :: m, h1, h2, h => by
    obtain ⟨a1, a2⟩ := List.pairwise_cons.mp h1
    obtain ⟨b1, b2⟩ := List.pairwise_cons.mp h2
    have e : x = y := by
      rcases List.mem_cons.mp ((h x).mp List.mem_cons_self) with e | e
      · exact e
      · rcases List.mem_cons.mp ((h y).mpr List.mem_cons_self) with e2 | e2
        · exact e2.symm
        · have := b1 x e; have := a1 y e2; omega
    subst e
    rw [asc_ext a2 b2 fun k => ?_]
    constructor
    · intro hk
      rcases List.mem_cons.mp ((h k).mp (List.mem_cons_of_mem _ hk)) with e | e
      · subst e; exact absurd (a1 k hk) (by omega)
      · exact e
    · intro hk
      rcases List.mem_cons.mp ((h k).mpr (List.mem_cons_of_mem _ hk)) with e | e
      · subst e; exact absurd (b1 k hk) (by omega)
      · exact e
theorem usort_eq {l m : List Int} (h : m.Pairwise (· < ·)) (hm : ∀ k, k ∈ m ↔ k ∈ l) : m = usort l := asc_ext h usort_asc fun k => (hm k).trans mem_usort.symm
section
variable {P : Program} {w : World} {A : Around} {E : Value → Shared → Prop} {s : Shared}
/-- the heap with an empty set -/
abbrev hSet (w : World) (h : Heap) : Heap := h.push { cls := .type "set", dict := none, data := .set #[] 0 (.fresh 0 0 (!w.params.followText "set-order")) }
set_option maxHeartbeats 3200000 in
/-- set(l), l a list of ints: SetFor's walk with a list for the tuple -/
theorem set_of_list {l : Addr} {items : Array Value} (ns : List Int) {Q : Value → Shared → Prop} (hh : A.handled = none) (hl : s.heap.IsList l items) (hit : IntsAre items.toList ns) (hb : ns.length + 1 < scanBound)
    (h : ∀ (h' : Heap) (tk c : Nat), SetR w h' s.heap.objs.size (fun j => decide (j ∈ ns)) c → c ≤ ns.length → (∀ b o, s.heap.get? b = some o → h'.get? b = some o) → Q (.ref s.heap.objs.size) { s with heap := h', toks := tk }) :
    wpAny (model P w) A (call (.type "set") [.ref l]) Q E s := by
  have many : items.size = ns.length := by have q := IntsAre.length hit; rwa [Array.length_toList] at q
  have hll : l < s.heap.objs.size := by obtain ⟨o, ho, _⟩ := id hl; exact Heap.lt_size ho
  have hS0 : (hSet w s.heap).get? s.heap.objs.size = some { cls := .type "set", dict := none, data := .set #[] 0 (.fresh 0 0 (!w.params.followText "set-order")) } := Heap.get?_push_size _ rfl
  have hz : (hSet w s.heap).objs.size = s.heap.objs.size + 1 := Heap.size_push ..
  have hl1 : (hSet w s.heap).IsList l items := hl.push _
  obtain ⟨c, tl, hmro⟩ := F.called_set.mro
  have hmade := F.called_set.made
  have hsub := F.called_set.sub
  have h1 := F.called_set.notType
  have h2 := F.called_set.canCreate
  have hct := F.typeCall_set_1 (.ref l)
  refine wpAny_call (codeAny_of_tree ?_)
  show wpAny _ _ (callAny (.type "set") _) _ _ _
  refine wpAny_pure ⟨Code.quiet_builtin _ (by decide +kernel), codeAny_builtin F.entry_type_call ?_⟩
  rw [Around.under_plain (weight_type_call_type "set" [.ref l] []) rfl]
  repeat (any_goals (first | assumption | wp_step))
  refine codeAny_mono (code_set_led1 (.ref l) (E := E) (Q₁ := fun obj s₁ => obj = .ref s.heap.objs.size ∧ s₁ = { s with heap := hSet w s.heap }) ⟨rfl, rfl⟩) fun r s₁ hr => ?_
  match r, hr with
  | .error e, hr => exact hr
  | .ok (.ret obj), hr =>
    obtain ⟨rfl, rfl⟩ := hr
    have hT : Shared.TypeIs { s with heap := hSet w s.heap } (.ref s.heap.objs.size) "set" := ⟨_, hS0, rfl⟩
    have hli := F.called_set.init.lookup
    have hbi := F.called_set.init.bind (.ref s.heap.objs.size)
    repeat (any_goals (first | assumption | wp_step))
    refine codeAny_mono (codeAny_call_builtin (R := wants (fun r s₂ => r = .none ∧ ∃ h' tk c, s₂ = { s with heap := h', toks := tk } ∧ SetR w h' s.heap.objs.size (fun j => decide (j ∈ ns)) c ∧ c ≤ ns.length ∧
        (∀ b o, s.heap.get? b = some o → h'.get? b = some o)) E) F.called_set.init.plain F.entry_set_init (check_set_init_1 hT ?_)) fun r₂ s₂ hr₂ => ?_
    · obtain ⟨⟨ocls, odict, odata, oslots⟩, hol, hcl, nl, hdl⟩ := id hl1
      simp only at hcl hdl
      subst hcl; subst hdl
      have hsls := F.sub_list_set
      have hslf := F.sub_list_frozenset
      have hne : (Value.type "list" == Value.type "dict") = false := by decide
      unfold Builtin.«set.__init__» noKeywords Builtin.Frozenset.updateFrom
      generalize hPI : pyIter = PI
      wp_walk
      subst hPI
      refine wpAny_pyIter_list hl1 (wpAny_bind (wpAny_runValue ?_))
      have hval : ∀ (i : Nat) (v : Value), items[i]? = some v → ∃ k t, ns[i]? = some k ∧ v = .int k t := fun i v hv => by
        have hi : i < ns.length := by rw [← many]; exact (Array.getElem?_eq_some_iff.mp hv).1
        obtain ⟨t, e⟩ := PyProof.Rows.IntsAre.int_at hit i v (by rw [Array.getElem?_toList]; exact hv)
        exact ⟨ns[i], t, List.getElem?_eq_getElem hi, by rw [e, List.getD_eq_getElem?_getD, List.getElem?_eq_getElem hi] <;> rfl⟩
      have hneI : l ≠ (hSet w s.heap).objs.size := by rw [hz]; exact Nat.ne_of_lt (Nat.lt_succ_of_lt hll)
      have hSf : s.heap.objs.size ∉ [(hSet w s.heap).objs.size, l] := by
        rw [hz]; simp only [List.mem_cons, List.mem_singleton, List.not_mem_nil, or_false, not_or]
        exact ⟨Nat.ne_of_lt (Nat.lt_succ_self _), Nat.ne_of_gt hll⟩
      refine set_update_ints ((Walks.list (by simp [hh]) _ l hneI items).toS) s.heap.objs.size hSf ns many hb hval (items.size - 0) 0 _ (by omega) (Nat.zero_le _)
        ⟨⟨_, Heap.get?_push_size _ rfl, rfl, rfl⟩, hl1.push _⟩ ⟨0, Nat.le_refl 0, setR_new_at (Heap.get?_push_of_some _ hS0)⟩ ?_
      rintro ⟨h', g2, d', tk', os'⟩ c' hm hc' hS'
      have eg : g2 = s.gens := hm.gens
      have ed : d' = s.drawn := hm.drawn
      have eo : os' = s.os := hm.os
      subst eg; subst ed; subst eo
      show wpAny _ _ _ _ _ _
      refine wpAny_pure ?_
      show wpAny _ _ (PySem.ret Value.none) _ _ _
      rw [many] at hc'
      refine wpAny_pure ⟨rfl, h', tk', c', rfl, hS', hc', fun b o e => ?_⟩
      have hb0 : b < s.heap.objs.size := Heap.lt_size e
      have hb2 : b ≠ (hSet w s.heap).objs.size := by rw [hz]; exact Nat.ne_of_lt (Nat.lt_succ_of_lt hb0)
      exact hm.heap b o (by simp only [List.mem_cons, List.mem_singleton, List.not_mem_nil, or_false, not_or]; exact ⟨Nat.ne_of_lt hb0, hb2⟩) (Heap.get?_push_of_some _ (Heap.get?_push_of_some _ e))
    · match r₂, hr₂ with
      | .error e, hr₂ => exact hr₂
      | .ok (.ret r), hr₂ =>
        obtain ⟨rfl, h', tk, c', rfl, hS', hc', hk'⟩ := hr₂
        repeat (any_goals (first | assumption | wp_step))
        exact h _ _ _ hS' hc' hk'
end
/-- set(l) -/
def rSetOfI (K : PySem.W.Frag) (w : World) : List V → Hp → VK → Prop := fun vs H Q => ∃ (l : Addr) (ns : List Int), vs = [V.ref l] ∧ SqL K H l (ns.map V.int) ∧ ns.length < 64 ∧ ∀ (p : Addr) (c : Nat), H p = none → c ≤ ns.length → Q (.ref p) (upd H p (SetO w p (fun j => decide (j ∈ ns)) c))
section
variable {X : Cx}
theorem cr_setOfI (hc : X.calm = true) : CallR X (.type "set") (rSetOfI X.K X.w) := by
  intro pins s σ H vs us Q I r ⟨l, ns, e0, hq, h64, q⟩
  subst e0
  obtain ⟨its, rv, p, _⟩ := I.list hq
  rw [Vals.ref1 r]
  have hi : IntsAre its ns := rv.ints
  refine set_of_list ns (I.ok.hd hc) p.isList (by simpa using hi) (by unfold scanBound; omega) fun h' tk c R hcn k => ?_
  exact ⟨.ref _, upd H s.heap.objs.size (SetO X.w s.heap.objs.size (fun j => decide (j ∈ ns)) c), I.laid (t' := tk) k (Nat.le_refl _) (setO_new R), rfl, q _ _ (I.hok.fresh (Nat.le_refl _)) hcn⟩
end
def dSSetI : List D → M D
  | [.lst ds] => fun P => match intsD ds with | some ns => ns.length < 64 ∧ P (.lst ((usort ns).map .int)) | none => False
  | _ => stuck
section
variable {X : Cx} {e : Expr} {ms : Env → M (List D)}
theorem fe_sseti {p p2 pos pos2 : Pos} (hc : X.calm = true) (z1 : X.mg "sorted" = none) (z2 : X.mg "set" = none) (ha : BA X [e] ms) (g1 : Gl X "sorted" := by rfl) (g2 : Gl X "set" := by rfl)
    (he : starEach [e] X.env = (false, eval e X.env) :: starEach [] X.env := by rfl) (hpl : (backTo pos2 (starEach [] X.env)).any (·.1) = false := by rfl)
    (he' : starEach [.Call (.Name "set" p2) [e] [] pos2] X.env = (false, eval (.Call (.Name "set" p2) [e] [] pos2) X.env) :: starEach [] X.env := by rfl) (hpl' : (backTo pos (starEach [] X.env)).any (·.1) = false := by rfl) :
    FE X (.Call (.Name "sorted" p) [.Call (.Name "set" p2) [e] [] pos2] [] pos) (eCall dSSetI ms) :=
  pe_imp (pe_callB (cr_sortedSet hc) g1 z1 (by decide +kernel) (pa_cons (pe_callTy (cr_setOfI hc) g2 z2 (by decide +kernel) ha (by decide) (by decide) he hpl) pa_nil he') (by decide) (by decide) he' hpl') fun σ H Q ⟨G0, H0, G, env, P, ok, hm, k⟩ => by
    refine ⟨G0, H0, G, env, _, ok, hm, fun ds vs G1 H1 hP r1 q1 => ?_⟩
    unfold dSSetI at hP
    split at hP
    · obtain ⟨v, rfl, h⟩ := q1.one_inv
      obtain ⟨l, xs, rfl, h1, h2⟩ := h.lst_inv r1.b
      split at hP
      · rename_i ns hb
        have e := h2.intl hb
        subst e
        obtain ⟨h64, hP⟩ := hP
        refine ⟨l, ns, rfl, .of h1, h64, fun a c ha hcn => ⟨a, _, c, rfl, upd_same, by omega, fun out b asc mem len hb => ?_⟩⟩
        have em : out = usort ns := usort_eq asc fun k => by rw [mem]; simp
        subst em
        refine k _ b G1 _ hP ((r1.trans (.newO r1.b ha)).trans (.newO (Gr.newO r1.b ha).b hb)) (r1.h.fresh ((Ex.new ha).fresh hb)) (r1.b.fresh ((Ex.new ha).fresh hb)) ?_
        exact .lst upd_same (RepL.ints_map _)
      · exact hP.elim
    · exact hP.elim
end
end G
set_option Elab.async false
set_option linter.all false
set_option maxRecDepth 100000
namespace G
open PySem PySem.Spec PyProof.Rows L2
/-! ### zip and enumerate of lists, tuples and texts in any mix -/
inductive Src | l (a : Addr) | t (a : Addr) | s (x : Str)
def SrcAt (K : PySem.W.Frag) (H : Hp) : Src → List V → Prop
  | .l a, vs => SqL K H a vs
  | .t a, vs => SqT K H a vs
  | .s x, vs => vs = x.cps.toList.map fun c => V.str ⟨#[c]⟩
def SrcV : V → Src → Prop
  | .ref a, .l b => a = b
  | .ref a, .t b => a = b
  | .str x, .s y => x = y
  | _, _ => False
def srcIs : Src → Addr → Prop
  | .l a, b => b = a
  | .t a, b => b = a
  | .s _, _ => False
def srcIt (h : Heap) (it : Addr) (i : Nat) : Src → Prop
  | .l a => h.IsListIter it a i
  | .t a => h.IsTupleIter it a i
  | .s x => ∃ t, h.IsStrIter it (strIterType x) x t i
theorem srcIt_keep {h h' : Heap} {it : Addr} {i : Nat} : ∀ {src : Src}, srcIt h it i src → (∀ o, h.get? it = some o → h'.get? it = some o) → srcIt h' it i src
  | .l _, st, k => Heap.IsListIter.at st k
  | .t _, st, k => Heap.IsTupleIter.at st k
  | .s _, ⟨t, o, ho, r⟩, k => ⟨t, o, k o ho, r⟩
theorem srcIt_ob {h : Heap} {it : Addr} {i : Nat} : ∀ {src : Src}, srcIt h it i src → ∃ o, h.get? it = some o ∧ ∀ v, o.data ≠ .cell v
  | .l _, ⟨o, ho, _, d⟩ => ⟨o, ho, fun v q => by rw [d] at q; cases q⟩
  | .t _, ⟨o, ho, _, d⟩ => ⟨o, ho, fun v q => by rw [d] at q; cases q⟩
  | .s _, ⟨_, o, ho, _, d⟩ => ⟨o, ho, fun v q => by rw [d] at q; cases q⟩
section
variable {X : Cx} {pins : List (Addr × Obj)} {σ : L2.St} {H : Hp} {s : Shared}
theorem src_inj (I : Inv X pins σ H s) : ∀ {src : Src} {vs us : List V}, SrcAt X.K H src vs → SrcAt X.K H src us → vs = us
  | .l _, _, _, a, b => I.list_inj a b
  | .t _, _, _, a, b => I.tuple_inj a b
  | .s _, _, _, a, b => a.trans b.symm
theorem src_lt (I : Inv X pins σ H s) : ∀ {src : Src} {vs : List V}, SrcAt X.K H src vs → ∀ b, srcIs src b → b < s.heap.objs.size
  | .l _, _, q, _, rfl => by obtain ⟨its, _, p, _⟩ := I.list q; exact p.lt
  | .t _, _, q, _, rfl => by obtain ⟨its, _, ⟨o, ho, _⟩, _⟩ := I.tuple q; exact Heap.lt_size ho
  | .s _, _, _, _, h => h.elim
/-- what an iterator of the source draws -/
theorem src_draws (I : Inv X pins σ H s) (hh : X.A.in1.handled = none) {it : Addr} {i : Nat} : ∀ {src : Src} {vs : List V}, SrcAt X.K H src vs → srcIt s.heap it i src → (∀ b, srcIs src b → b ≠ it) →
    ∃ (fp : List Addr) (P : Nat → Value → Prop) (St : Nat → Heap → Prop), Draws X.prog X.w X.A.in1 it fp vs.length P St ∧ St i s.heap ∧ it ∈ fp ∧ (∀ b ∈ fp, b = it ∨ srcIs src b) ∧ (∀ j h, St j h → srcIt h it j src) ∧ ∀ j u, P j u → ∃ v, vs[j]? = some v ∧ RelV v u
  | .l a, vs, q, st, ne => by
    obtain ⟨its, rv, p, _⟩ := I.list q
    have hz : its.toArray.size = vs.length := by rw [List.size_toArray]; exact rv.length.symm
    refine ⟨_, _, _, hz ▸ Draws.list hh it a (ne a rfl) its.toArray, ⟨st, p.isList⟩, by simp, fun b hb => by simpa [srcIs] using hb, fun j h z => z.1, fun j u hu => ?_⟩
    have hu' : its[j]? = some u := by simpa using hu
    have hj : j < vs.length := by rw [← hz, List.size_toArray]; exact (List.getElem?_eq_some_iff.mp hu').1
    obtain ⟨u2, h2, r2⟩ := rv.get (List.getElem?_eq_getElem hj)
    rw [hu'] at h2; cases h2
    exact ⟨_, List.getElem?_eq_getElem hj, r2⟩
  | .t a, vs, q, st, ne => by
    obtain ⟨its, rv, p, _⟩ := I.tuple q
    have hz : its.toArray.size = vs.length := by rw [List.size_toArray]; exact rv.length.symm
    refine ⟨_, _, _, hz ▸ Draws.tuple hh it a (ne a rfl) its.toArray, ⟨st, show s.heap.IsTuple a its.toArray from p⟩, by simp, fun b hb => by simpa [srcIs] using hb, fun j h z => z.1, fun j u hu => ?_⟩
    have hu' : its[j]? = some u := by simpa using hu
    have hj : j < vs.length := by rw [← hz, List.size_toArray]; exact (List.getElem?_eq_some_iff.mp hu').1
    obtain ⟨u2, h2, r2⟩ := rv.get (List.getElem?_eq_getElem hj)
    rw [hu'] at h2; cases h2
    exact ⟨_, List.getElem?_eq_getElem hj, r2⟩
  | .s x, vs, q, ⟨t, st⟩, _ => by
    have hz : x.cps.size = vs.length := by rw [show vs = _ from q, List.length_map, Array.length_toList]
    refine ⟨_, _, _, hz ▸ Draws.text hh it x t, st, by simp, fun b hb => .inl (by simpa using hb), fun j h z => ⟨t, z⟩, fun j u ⟨c, tk, hc, hu⟩ => ⟨.str ⟨#[c]⟩, ?_, tk, hu⟩⟩
    rw [show vs = _ from q, List.getElem?_map, Array.getElem?_toList, hc]
    rfl
/-- how an iterator of the source begins -/
theorem src_begins (I : Inv X pins σ H s) : ∀ {src : Src} {vs : List V} {v : V} {u : Value}, SrcAt X.K H src vs → SrcV v src → RelV v u →
    ∃ (o : Obj) (Hc : Heap → Prop), Begins u o Hc ∧ Hc s.heap ∧ ∀ h it, h.get? it = some o → srcIt h it 0 src
  | .l a, vs, v, u, q, e, r => by
    cases v with
    | ref b =>
      cases (show b = a from e)
      cases (show u = Value.ref a from r)
      obtain ⟨its, rv, p, _⟩ := I.list q
      exact ⟨_, _, begins_list a its.toArray, p.isList, fun h it hi => ⟨_, hi, rfl, rfl⟩⟩
    | _ => exact (show False from e).elim
  | .t a, vs, v, u, q, e, r => by
    cases v with
    | ref b =>
      cases (show b = a from e)
      cases (show u = Value.ref a from r)
      obtain ⟨its, rv, p, _⟩ := I.tuple q
      exact ⟨_, _, begins_tuple a its.toArray, (show s.heap.IsTuple a its.toArray from p), fun h it hi => ⟨_, hi, rfl, rfl⟩⟩
    | _ => exact (show False from e).elim
  | .s x, vs, v, u, q, e, r => by
    cases v with
    | str y =>
      cases (show y = x from e)
      obtain ⟨t, rfl⟩ := (show ∃ t, u = Value.str x t from r)
      exact ⟨_, _, begins_text x t, trivial, fun h it hi => ⟨t, _, hi, rfl, rfl⟩⟩
    | _ => exact (show False from e).elim
end
/-- two sources as they stand at each turn, the items in new pairs -/
def Itu (K : PySem.W.Frag) (s1 s2 : Src) (n1 n2 : Nat) : It :=
  ⟨fun i H => ∃ (xs ys : List V) (x y : V), SrcAt K H s1 xs ∧ SrcAt K H s2 ys ∧ xs.length = n1 ∧ ys.length = n2 ∧ xs[i]? = some x ∧ ys[i]? = some y,
    fun i H v H' => ∃ T x y, v = .ref T ∧ H T = none ∧ H' = upd H T (.tup [x, y]) ∧ (∀ xs, SrcAt K H s1 xs → xs[i]? = some x) ∧ ∀ ys, SrcAt K H s2 ys → ys[i]? = some y,
    fun i H => ∃ xs ys : List V, SrcAt K H s1 xs ∧ SrcAt K H s2 ys ∧ xs.length = n1 ∧ ys.length = n2 ∧ (n1 ≤ i ∨ n2 ≤ i)⟩
/-- one source, each item with its number -/
def Iteu (K : PySem.W.Frag) (src : Src) (n : Nat) : It :=
  ⟨fun i H => ∃ (xs : List V) (x : V), SrcAt K H src xs ∧ xs.length = n ∧ xs[i]? = some x,
    fun i H v H' => ∃ T x, v = .ref T ∧ H T = none ∧ H' = upd H T (.tup [.int (i : Nat), x]) ∧ ∀ xs, SrcAt K H src xs → xs[i]? = some x,
    fun i H => ∃ xs : List V, SrcAt K H src xs ∧ xs.length = n ∧ n ≤ i⟩
/-- the cells of a zip, apart from its sources -/
structure Cells (z TI TO i1 i2 : Addr) (s1 s2 : Src) : Prop where
  nd : [z, TI, TO, i1, i2].Nodup
  o1 : ∀ b, srcIs s1 b → b ∉ [z, TI, TO, i1, i2]
  o2 : ∀ b, srcIs s2 b → b ∉ [z, TI, TO, i1, i2]
theorem Cells.sep {z TI TO i1 i2 : Addr} {s1 s2 : Src} {fp1 fp2 : List Addr} (C : Cells z TI TO i1 i2 s1 s2) (m1 : i1 ∈ fp1) (m2 : i2 ∈ fp2) (h1 : ∀ b ∈ fp1, b = i1 ∨ srcIs s1 b) (h2 : ∀ b ∈ fp2, b = i2 ∨ srcIs s2 b) : ZipSep2 z TI TO i1 i2 fp1 fp2 := by
  have nd := C.nd
  simp only [List.nodup_cons, List.mem_cons, List.not_mem_nil, or_false, not_or, List.nodup_nil, and_true] at nd
  obtain ⟨⟨a1, a2, a3, a4⟩, ⟨b1, b2, b3⟩, ⟨c1, c2⟩, d1, _⟩ := nd
  have off1 : ∀ x ∈ [z, TI, TO, i1, i2], x ≠ i1 → x ∉ fp1 := fun x hx ne hm => (h1 x hm).elim ne fun q => C.o1 x q hx
  have off2 : ∀ x ∈ [z, TI, TO, i1, i2], x ≠ i2 → x ∉ fp2 := fun x hx ne hm => (h2 x hm).elim ne fun q => C.o2 x q hx
  exact { TIz := Ne.symm a1, TOz := Ne.symm a2, TITO := b1, TIi1 := b2, mem1 := m1, zf1 := off1 z (by simp) a3, Tf1 := off1 TO (by simp) c1, TIi2 := b3, mem2 := m2,
          zf2 := off2 z (by simp) a4, Tf2 := off2 TO (by simp) c2, sep1_2 := off2 i1 (by simp) d1, sep2_1 := off1 i2 (by simp) (Ne.symm d1) }
theorem turn_zipU {P : Program} {w : World} {K : PySem.W.Frag} {elts : List Expr} {kk : Nat} {tpos : Pos} {s1 s2 : Src} {n1 n2 : Nat} {z TI TO i1 i2 : Addr} (C : Cells z TI TO i1 i2 s1 s2) :
    Turn P w K (.Tuple elts kk tpos) (Itu K s1 s2 n1 n2) [z, TI, TO, i1, i2] z
      (fun i h => IsZip h z TI TO .none ∧ IsTupOf2 h TI (.ref i1) (.ref i2) ∧ (∃ x y, IsTupOf2 h TO x y) ∧ srcIt h i1 i s1 ∧ srcIt h i2 i s2 ∧ i ≤ n1 ∧ i ≤ n2) where
  mem := by simp
  obj := fun i h st c hc => by
    obtain ⟨hz, hTI, ⟨x, y, hTO⟩, h1, h2, _⟩ := st
    have e' : c = z ∨ c = TI ∨ c = TO ∨ c = i1 ∨ c = i2 := by simpa using hc
    rcases e' with q | q | q | q | q
    · rw [q]; exact ⟨_, hz, fun v q => nomatch q⟩
    · rw [q]; exact ⟨_, hTI, fun v q => nomatch q⟩
    · rw [q]; exact ⟨_, hTO, fun v q => nomatch q⟩
    · rw [q]; exact srcIt_ob h1
    · rw [q]; exact srcIt_ob h2
  keep := fun i h h' st k => by
    obtain ⟨hz, hTI, ⟨x, y, hTO⟩, h1, h2, l⟩ := st
    exact ⟨k z (by simp) _ hz, k TI (by simp) _ hTI, ⟨x, y, k TO (by simp) _ hTO⟩, srcIt_keep h1 fun o q => k i1 (by simp) o q, srcIt_keep h2 fun o q => k i2 (by simp) o q, l⟩
  item := by
    intro X hP hw hK hc i pins s σ H E I hf st hg
    subst hP hw hK
    obtain ⟨hz, hTI, ⟨x0, y0, hTO⟩, h1, h2, l1, l2⟩ := st
    obtain ⟨xs, ys, x, y, qx, qy, e1, e2, hx, hy⟩ := hg
    have hh : X.A.in1.handled = none := by have := I.ok.hd hc; simpa using this
    obtain ⟨fp1, P1, St1, D1, st1, m1, f1, b1, v1⟩ := src_draws I hh qx h1 fun b hb e => C.o1 b hb (by simp [e])
    obtain ⟨fp2, P2, St2, D2, st2, m2, f2, b2, v2⟩ := src_draws I hh qy h2 fun b hb e => C.o2 b hb (by simp [e])
    have S := C.sep m1 m2 f1 f2
    have hi1 : i < xs.length := (List.getElem?_eq_some_iff.mp hx).1
    have hi2 : i < ys.length := (List.getElem?_eq_some_iff.mp hy).1
    refine wpAny_pyNext_zipD2_item S D1 D2 hz hTI hTO st1 st2 hi1 hi2 fun u u2 h' tk y1 y2 z' TO' d1 d2 hT hsz hk => ?_
    obtain ⟨x', hx', ru⟩ := v1 i u y1
    obtain ⟨y', hy', ru2⟩ := v2 i u2 y2
    rw [hx] at hx'; cases hx'
    rw [hy] at hy'; cases hy'
    have hzl : z < s.heap.objs.size := Heap.lt_size hz
    refine ⟨_, rfl, wpAny_letOwnedTupleGo_zip (s := { s with heap := h', toks := tk }) z' fun h'' z'' sb => ?_⟩
    have hT2 : h''.get? s.heap.objs.size = some { cls := .type "tuple", data := .seq #[u, u2] } := (sb.2 _ (Nat.ne_of_gt hzl)).trans hT
    have new : ObjOk X.prog X.w (upd H s.heap.objs.size (.tup [x, y])) h'' s.heap.objs.size (.tup [x, y]) :=
      ⟨by show 2 ≤ sizeLine; decide, [u, u2], .cons ru (.cons ru2 .nil), ⟨_, hT2, rfl, _, rfl⟩⟩
    have I1 : Inv X pins σ (upd H s.heap.objs.size (.tup [x, y])) { s with heap := h'', toks := tk } :=
      I.turnedNew (t' := tk) (ch := [z, TI, TO, i1, i2]) (fun c o hb q => (sb.2 c (fun q' => hb (by simp [q']))).trans (hk c o (fun q' => hb (by simp [q'])) (fun q' => hb (by simp [q'])) (fun q' => hb (by simp [q'])) (fun q' => hb (by simp [q'])) q)) hf (Nat.le_refl _) new
    have nz1 : i1 ≠ z := fun e => S.zf1 (e ▸ m1)
    have nz2 : i2 ≠ z := fun e => S.zf2 (e ▸ m2)
    refine ⟨.ref s.heap.objs.size, _, I1, rfl, ⟨_, x, y, rfl, I.hok.fresh (Nat.le_refl _), rfl, fun l hl => by rw [src_inj I hl qx]; exact hx, fun l hl => by rw [src_inj I hl qy]; exact hy⟩, ⟨z'', ?_, ⟨u, u2, ?_⟩, ?_, ?_, ?_, ?_⟩, fun c hcm => ?_⟩
    · exact (sb.2 _ S.TIz).trans (hk _ _ S.TIz S.TITO S.TIi1 S.TIi2 hTI)
    · exact (sb.2 _ S.TOz).trans TO'
    · exact srcIt_keep (b1 _ _ d1) fun o q => (sb.2 _ nz1).trans q
    · exact srcIt_keep (b2 _ _ d2) fun o q => (sb.2 _ nz2).trans q
    · omega
    · omega
    · have hlt : c < s.heap.objs.size := by
        have e' : c = z ∨ c = TI ∨ c = TO ∨ c = i1 ∨ c = i2 := by simpa using hcm
        rcases e' with q | q | q | q | q
        · rw [q]; exact hzl
        · rw [q]; exact Heap.lt_size hTI
        · rw [q]; exact Heap.lt_size hTO
        · rw [q]; obtain ⟨_, e1, _⟩ := srcIt_ob h1; exact Heap.lt_size e1
        · rw [q]; obtain ⟨_, e2, _⟩ := srcIt_ob h2; exact Heap.lt_size e2
      rw [upd_ne (Nat.ne_of_lt hlt)]
      exact (hf c hcm).1
  done := by
    intro X hP hw hK hc i pins s σ H E I hf st hg
    subst hP hw hK
    obtain ⟨hz, hTI, ⟨x0, y0, hTO⟩, h1, h2, l1, l2⟩ := st
    obtain ⟨xs, ys, qx, qy, e1, e2, hend⟩ := hg
    have hh : X.A.in1.handled = none := by have := I.ok.hd hc; simpa using this
    obtain ⟨fp1, P1, St1, D1, st1, m1, f1, b1, v1⟩ := src_draws I hh qx h1 fun b hb e => C.o1 b hb (by simp [e])
    obtain ⟨fp2, P2, St2, D2, st2, m2, f2, b2, v2⟩ := src_draws I hh qy h2 fun b hb e => C.o2 b hb (by simp [e])
    exact wpAny_pyNext_zipD2_end (C.sep m1 m2 f1 f2) D1 D2 hz hTI hTO st1 st2 (by omega) (by omega) (by omega) fun h' tk hk => ⟨rfl, I.turnedL (t' := tk) (ch := [z, TI, TO, i1, i2]) (fun c o hb q =>
      hk c o (fun q' => hb (by simp [q'])) (fun q' => hb (by simp [q'])) (fun q' => hb (by simp [q'])) (fun q' => hb (by simp [q'])) q) hf⟩
  self := fun A i s Q E st h => wpAny_pyIter_zip st.1 h
theorem turn_enumU {P : Program} {w : World} {K : PySem.W.Frag} {elts : List Expr} {kk : Nat} {tpos : Pos} {src : Src} {n : Nat} {e it : Addr} (hne : e ≠ it) (off : ∀ b, srcIs src b → b ≠ e ∧ b ≠ it) :
    Turn P w K (.Tuple elts kk tpos) (Iteu K src n) [e, it] e (fun i h => (∃ old, IsEnum h e it ((i : Nat) : Int) old) ∧ srcIt h it i src ∧ i ≤ n) where
  mem := by simp
  obj := fun i h st b hb => by
    obtain ⟨⟨old, he⟩, hi, _⟩ := st
    have e' : b = e ∨ b = it := by simpa using hb
    rcases e' with z | z
    · rw [z]; exact ⟨_, he, fun v q => nomatch q⟩
    · rw [z]; exact srcIt_ob hi
  keep := fun i h h' st k => let ⟨⟨old, he⟩, hi, l⟩ := st; ⟨⟨old, k e (by simp) _ he⟩, srcIt_keep hi fun o q => k it (by simp) o q, l⟩
  item := by
    intro X hP hw hK hc i pins s σ H E I hf st hg
    subst hP hw hK
    obtain ⟨⟨old, he⟩, hit, hl⟩ := st
    obtain ⟨xs, x, hq, hn, hx⟩ := hg
    have hh : X.A.in1.handled = none := by have := I.ok.hd hc; simpa using this
    obtain ⟨fp, P1, St1, D1, st1, m1, f1, b1, v1⟩ := src_draws I hh hq hit fun b hb => (off b hb).2
    have hef : e ∉ fp := fun hm => (f1 e hm).elim hne fun q => (off e q).1 rfl
    have hel : e < s.heap.objs.size := Heap.lt_size he
    have hil : it < s.heap.objs.size := by obtain ⟨_, q, _⟩ := srcIt_ob hit; exact Heap.lt_size q
    have hi : i < xs.length := (List.getElem?_eq_some_iff.mp hx).1
    refine wpAny_pyNext_enum_itemD D1 he st1 hi hne hef fun u h' tk hu ho hit' hT hsz hk => ?_
    obtain ⟨x', hx', ru⟩ := v1 i u hu
    rw [hx] at hx'; cases hx'
    refine ⟨_, rfl, wpAny_letOwnedTupleGo_enum (s := { s with heap := h', toks := tk + 1 }) ho fun h'' he' sb => ?_⟩
    have hT2 : h''.get? s.heap.objs.size = some { cls := .type "tuple", data := .seq #[.int i tk, u] } := (sb.2 _ (Nat.ne_of_gt hel)).trans hT
    have new : ObjOk X.prog X.w (upd H s.heap.objs.size (.tup [.int (i : Nat), x])) h'' s.heap.objs.size (.tup [.int (i : Nat), x]) :=
      ⟨by show 2 ≤ sizeLine; decide, [.int i tk, u], .cons ⟨_, rfl⟩ (.cons ru .nil), ⟨_, hT2, rfl, _, rfl⟩⟩
    have I1 : Inv X pins σ (upd H s.heap.objs.size (.tup [.int (i : Nat), x])) { s with heap := h'', toks := tk + 1 } :=
      I.turnedNew (ch := [e, it]) (fun b ob hb q => (sb.2 b (fun z => hb (by simp [z]))).trans (hk b ob (fun z => hb (by simp [z])) (fun z => hb (by simp [z])) q)) hf (Nat.le_refl _) new
    refine ⟨.ref s.heap.objs.size, _, I1, rfl, ⟨_, x, rfl, I.hok.fresh (Nat.le_refl _), rfl, fun ys hy => by rw [src_inj I hy hq]; exact hx⟩, ⟨⟨u, ?_⟩, srcIt_keep (b1 _ _ hit') fun o q => (sb.2 it (Ne.symm hne)).trans q, by omega⟩, fun b hb => ?_⟩
    · have e1 : ((i + 1 : Nat) : Int) = (i : Int) + 1 := by omega
      rw [e1]; exact he'
    · have hb' : b < s.heap.objs.size := by
        have e' : b = e ∨ b = it := by simpa using hb
        rcases e' with z | z
        · rw [z]; exact hel
        · rw [z]; exact hil
      rw [upd_ne (Nat.ne_of_lt hb')]
      exact (hf b hb).1
  done := by
    intro X hP hw hK hc i pins s σ H E I hf st hg
    subst hP hw hK
    obtain ⟨⟨old, he⟩, hit, hl⟩ := st
    obtain ⟨xs, hq, hn, hx⟩ := hg
    have hh : X.A.in1.handled = none := by have := I.ok.hd hc; simpa using this
    have ei : i = xs.length := by omega
    subst ei
    obtain ⟨fp, P1, St1, D1, st1, m1, f1, b1, v1⟩ := src_draws I hh hq hit fun b hb => (off b hb).2
    obtain ⟨f0, f1, f2, f3, f4, f5⟩ := hf it (by simp)
    exact wpAny_pyNext_enum_endD D1 he st1 fun h' eb => ⟨rfl, I.turned (t' := s.toks) (fun b o hb q => eb b o hb q) f0 f1 f3 f4 f5⟩
  self := fun A i s Q E st h => let ⟨⟨_, he⟩, _⟩ := st; wpAny_pyIter_enum he h
set_option maxHeartbeats 1000000 in
theorem meets_enumB {v : Value} {o : Obj} {Hc : Heap → Prop} (B : Begins v o Hc) :
    Meets (Builtin.«enumerate.__new__» ⟨[.type "enumerate", v], []⟩) (fun _ R s => Hc s.heap ∧
      R (.ok (.ret (.ref (s.heap.push o).objs.size))) { s with heap := (s.heap.push o).push { cls := .type "enumerate", data := .fields #[.none, .bool false, .ref s.heap.objs.size, rawInt 0, .none, .none] } }) :=
  .of_wp fun prog w A R s h => by
    obtain ⟨hp, g, d, tk, os⟩ := s
    obtain ⟨h1, h⟩ := h
    have hsub := sub_enumerate
    have q : ∀ {A' : Around} {E : Value → Shared → Prop} {Q : Value → Shared → Prop}, Q (.ref hp.objs.size) ⟨hp.push o, g, d, tk, os⟩ → wpAny (model prog w) A' (pyIter v) Q E ⟨hp, g, d, tk, os⟩ := fun q => B.iter prog w _ _ ⟨hp, g, d, tk, os⟩ _ h1 q
    wp_walk
    refine wpAny_stack_any fun st => wpAny_pure ?_
    split
    · rename_i c _ _ _ _ _
      cases (c == Value.type "enumerate")
      · wp_walk using q
        exact ⟨_, rfl, h⟩
      · wp_walk using q
        exact ⟨_, rfl, h⟩
    · wp_walk using q
      exact ⟨_, rfl, h⟩
section
variable {prog : Program} {w : World} {A : Around} {E : Value → Shared → Prop} {s : Shared}
theorem enum_of {v : Value} {o : Obj} {Hc : Heap → Prop} {Q : Value → Shared → Prop} (B : Begins v o Hc) (h1 : Hc s.heap)
    (h : ∀ h', IsEnum h' (s.heap.objs.size + 1) s.heap.objs.size 0 .none → h'.get? s.heap.objs.size = some o → h'.objs.size = s.heap.objs.size + 2 → (∀ b o, s.heap.get? b = some o → h'.get? b = some o) → Q (.ref (s.heap.objs.size + 1)) { s with heap := h' }) :
    wpAny (model prog w) A (call (.type "enumerate") [v]) Q E s := by
  refine callType_new F.called_enumerate (by decide) (F.typeCall_enumerate_1 _) (F.newCall_enumerate_1 _) (fun obj => F.args_object_init_2 obj _) F.entry_enumerate_new (meets_enumB B) ⟨h1, ?_⟩
  have hz : (s.heap.push o).objs.size = s.heap.objs.size + 1 := Heap.size_push ..
  show _ ∧ _
  rw [hz]
  have he : IsEnum ((s.heap.push o).push { cls := .type "enumerate", data := .fields #[.none, .bool false, .ref s.heap.objs.size, rawInt 0, .none, .none] }) (s.heap.objs.size + 1) s.heap.objs.size 0 .none := by
    have := Heap.get?_push_size (s.heap.push o) (o := { cls := .type "enumerate", data := .fields #[.none, .bool false, .ref s.heap.objs.size, rawInt 0, .none, .none] }) rfl
    rw [hz] at this; exact this
  exact ⟨⟨_, he, rfl⟩, h _ he (Heap.get?_push_of_some _ (Heap.get?_push_size _ B.free)) (by rw [Heap.size_push, hz]) fun b o' x => Heap.get?_push_of_some _ (Heap.get?_push_of_some _ x)⟩
end
def tZipU (K : PySem.W.Frag) (ta : TA) : TI := fun σ H R => ta σ H fun vs H1 => ∃ v w s1 s2 xs ys, vs = [v, w] ∧ SrcV v s1 ∧ SrcV w s2 ∧ SrcAt K H1 s1 xs ∧ SrcAt K H1 s2 ys ∧ R (Itu K s1 s2 xs.length ys.length) H1
def tEnU (K : PySem.W.Frag) (ta : TA) : TI := fun σ H R => ta σ H fun vs H1 => ∃ v src xs, vs = [v] ∧ SrcV v src ∧ SrcAt K H1 src xs ∧ R (Iteu K src xs.length) H1
section
variable {X : Cx} {e e2 : Expr} {ta : TA} {p pos tpos : Pos} {elts : List Expr} {kk : Nat}
theorem pi_zipU (hg : Gl X "zip") (hm : X.mg "zip" = none) (ha : PA X [e, e2] ta) (hs : starEach [e, e2] X.env = (false, eval e X.env) :: starEach [e2] X.env := by rfl) (hpl : (backTo pos (starEach [e2] X.env)).any (·.1) = false := by rfl) :
    PI X (.Tuple elts kk tpos) (.Call (.Name "zip" p) [e, e2] [] pos) (tZipU X.K ta) := by
  refine ⟨fun pins s σ H R I h => ?_⟩
  refine Call_ (ld_blt I hg hm PyProof.Rows.boot_zip (PyProof.Rows.callWith_type1 (thn (ha.run pos pins s σ H _ I h) fun us s1 ⟨vs, H1, I1, r1, q1⟩ => ?_) hs hpl))
  obtain ⟨v, w, s1', s2', xs, ys, ex, v1, v2, a1, a2, q⟩ := q1
  subst ex
  cases r1 with
  | cons r rr =>
    cases rr with
    | cons r' rr =>
      cases rr
      obtain ⟨o1, H1c, B1, c1, g1⟩ := src_begins I1 a1 v1 r
      obtain ⟨o2, H2c, B2, c2, g2⟩ := src_begins I1 a2 v2 r'
      refine zip_begins2 B1 B2 c1 c2 fun h' hz hTI hTO h1 h2 hsz hk => wpAny_pyIter_zip hz ?_
      have I2 : Inv X pins σ H1 { s1 with heap := h' } := I1.kept (t' := s1.toks) hk
      have C : Cells (s1.heap.objs.size + 4) (s1.heap.objs.size + 2) (s1.heap.objs.size + 3) s1.heap.objs.size (s1.heap.objs.size + 1) s1' s2' := ⟨by simp, fun b hb hm => by
          have lt := src_lt I1 a1 b hb
          simp only [List.mem_cons, List.not_mem_nil, or_false] at hm
          have hle : s1.heap.objs.size ≤ b := by
            rcases hm with q | q | q | q | q
            · rw [q]; exact Nat.le_add_right _ _
            · rw [q]; exact Nat.le_add_right _ _
            · rw [q]; exact Nat.le_add_right _ _
            · rw [q]; exact Nat.le_refl _
            · rw [q]; exact Nat.le_add_right _ _
          exact absurd lt (Nat.not_lt_of_le hle), fun b hb hm => by
          have lt := src_lt I1 a2 b hb
          simp only [List.mem_cons, List.not_mem_nil, or_false] at hm
          have hle : s1.heap.objs.size ≤ b := by
            rcases hm with q | q | q | q | q
            · rw [q]; exact Nat.le_add_right _ _
            · rw [q]; exact Nat.le_add_right _ _
            · rw [q]; exact Nat.le_add_right _ _
            · rw [q]; exact Nat.le_refl _
            · rw [q]; exact Nat.le_add_right _ _
          exact absurd lt (Nat.not_lt_of_le hle)⟩
      refine ⟨s1.heap.objs.size + 4, [s1.heap.objs.size + 4, s1.heap.objs.size + 2, s1.heap.objs.size + 3, s1.heap.objs.size, s1.heap.objs.size + 1], _, _, H1, rfl, I2, turn_zipU C, ⟨hz, hTI, ⟨_, _, hTO⟩, g1 _ _ h1, g2 _ _ h2, Nat.zero_le _, Nat.zero_le _⟩, fun c hcm => ?_, q⟩
      have hle : s1.heap.objs.size ≤ c := by
        have e' : c = s1.heap.objs.size + 4 ∨ c = s1.heap.objs.size + 2 ∨ c = s1.heap.objs.size + 3 ∨ c = s1.heap.objs.size ∨ c = s1.heap.objs.size + 1 := by simpa using hcm
        rcases e' with z | z | z | z | z
        · rw [z]; exact Nat.le_add_right _ _
        · rw [z]; exact Nat.le_add_right _ _
        · rw [z]; exact Nat.le_add_right _ _
        · rw [z]; exact Nat.le_refl _
        · rw [z]; exact Nat.le_add_right _ _
      exact I1.fpOk hle (I1.hok.fresh hle)
theorem pi_enumU (hg : Gl X "enumerate") (hm : X.mg "enumerate" = none) (ha : PA X [e] ta) (hs : starEach [e] X.env = [(false, eval e X.env)] := by rfl) :
    PI X (.Tuple elts kk tpos) (.Call (.Name "enumerate" p) [e] [] pos) (tEnU X.K ta) := by
  refine ⟨fun pins s σ H R I h => ?_⟩
  refine Call_ (ld_blt I hg hm boot_enumerate (PyProof.Rows.callWith_type1 (thn (ha.run pos pins s σ H _ I h) fun us s1 ⟨vs, H1, I1, r1, q1⟩ => ?_) hs rfl))
  obtain ⟨v, src, xs, ex, hv, hq, q⟩ := q1
  subst ex
  cases r1 with
  | cons r rr =>
    cases rr
    obtain ⟨o1, H1c, B1, c1, g1⟩ := src_begins I1 hq hv r
    refine enum_of B1 c1 fun h' he hit hsz hk => wpAny_pyIter_enum he ?_
    have I2 : Inv X pins σ H1 { s1 with heap := h' } := I1.kept (t' := s1.toks) hk
    refine ⟨s1.heap.objs.size + 1, [s1.heap.objs.size + 1, s1.heap.objs.size], _, _, H1, rfl, I2, turn_enumU (Nat.succ_ne_self _) (fun b hb => ?_), ⟨⟨.none, he⟩, g1 _ _ hit, Nat.zero_le _⟩, fun b hb => ?_, q⟩
    · have lt := src_lt I1 hq b hb
      exact ⟨Nat.ne_of_lt (Nat.lt_succ_of_lt lt), Nat.ne_of_lt lt⟩
    have e' : b = s1.heap.objs.size + 1 ∨ b = s1.heap.objs.size := by simpa using hb
    have hle : s1.heap.objs.size ≤ b := by
      rcases e' with z | z
      · rw [z]; exact Nat.le_add_right _ _
      · rw [z]; exact Nat.le_refl _
    exact I1.fpOk hle (I1.hok.fresh hle)
end
/-! by what is walked -/
def seqO : D → Option (List D)
  | .lst ds => some ds
  | .tup ds => some ds
  | .kt ds => some ds
  | .str s => some (signsD s)
  | _ => none
theorem ex_src {K : PySem.W.Frag} {H H' : Hp} (e : Ex H H') : ∀ {src : Src} {vs : List V}, SrcAt K H src vs → SrcAt K H' src vs
  | .l _, _, h => ex_l e h
  | .t _, _, h => ex_t e h
  | .s _, _, h => h
theorem signs_rep {K : PySem.W.Frag} {G : Hp} : ∀ {s : List Nat}, sOk s = true → RepL K G (signsD s) (s.map fun c => V.str ⟨#[c]⟩)
  | [], _ => .nil
  | c :: r, h => by
    have h1 : sOk r = true := by unfold sOk at h ⊢; rw [List.all_cons, Bool.and_eq_true] at h; exact h.2
    exact .cons (.str [c] (sOk_one h List.mem_cons_self)) (signs_rep h1)
theorem repB_src {K : PySem.W.Frag} {G H : Hp} {d : D} {v : V} {ds : List D} (b : Ex G H) (y : RepB K G H d v) (h : seqO d = some ds) : ∃ src vs, SrcV v src ∧ SrcAt K H src vs ∧ RepL K G ds vs := by
  unfold seqO at h
  split at h
  · cases h; obtain ⟨a, vs, rfl, h1, h2⟩ := y.lst_inv b; exact ⟨.l a, vs, rfl, .of h1, h2⟩
  · cases h; obtain ⟨a, vs, rfl, h1, h2⟩ := y.tup_inv b; exact ⟨.t a, vs, rfl, h1, h2⟩
  · cases h; obtain ⟨a, vs, rfl, h1, h2⟩ := y.kt_inv; exact ⟨.t a, vs, rfl, h1, h2⟩
  · cases h
    obtain ⟨rfl, ho⟩ := y.str_inv
    exact ⟨.s _, _, rfl, by show _ = _; rfl, by simpa using signs_rep ho⟩
  · cases h
theorem rep_src {K : PySem.W.Frag} {G : Hp} {d : D} {v : V} {ds : List D} (y : Rep K G d v) (h : seqO d = some ds) : ∃ src vs, SrcV v src ∧ SrcAt K G src vs ∧ RepL K G ds vs := repB_src (.refl G) (.rep y) h
section
variable {K : PySem.W.Frag} {G Hs : Hp} {s1 s2 : Src} {ds es : List D} {vs us : List V}
theorem it_zu (h1 : SrcAt K Hs s1 vs) (h2 : SrcAt K Hs s2 us) (r1 : RepL K G ds vs) (r2 : RepL K G es us) : ItOk K G Hs (Itu K s1 s2 vs.length us.length) (zipD ds es) :=
  ⟨fun i d hd G' H' e1 e2 e3 => by
    obtain ⟨x, y, hx, hy, rfl⟩ := zipD_get hd
    obtain ⟨v, hv, rx⟩ := r1.get hx
    obtain ⟨u, hu, ry⟩ := r2.get hy
    refine ⟨⟨vs, us, v, u, ex_src e2 h1, ex_src e2 h2, rfl, rfl, hv, hu⟩, fun z H'' ⟨T, x', y', hz, hn, hH, p1, p2⟩ => ?_⟩
    subst hz hH
    have ex : v = x' := Option.some.inj (hv.symm.trans (p1 vs (ex_src e2 h1)))
    have ey : u = y' := Option.some.inj (hu.symm.trans (p2 us (ex_src e2 h2)))
    subst ex ey
    exact ⟨upd G' T (.tup [v, u]), .new e3 hn, .tup upd_same (.cons (rx.mono (e1.trans (.new (e3.fresh hn)))) (.cons (ry.mono (e1.trans (.new (e3.fresh hn)))) .nil))⟩, fun i G' H' hl e1 e2 e3 => by
    refine ⟨vs, us, ex_src e2 h1, ex_src e2 h2, rfl, rfl, ?_⟩
    unfold zipD at hl
    rw [List.length_zipWith, r1.len, r2.len] at hl
    omega⟩
theorem it_eu (h1 : SrcAt K Hs s1 vs) (r1 : RepL K G ds vs) : ItOk K G Hs (Iteu K s1 vs.length) (enumD ds) :=
  ⟨fun i d hd G' H' e1 e2 e3 => by
    obtain ⟨x, hx, rfl⟩ := enumD_get hd
    obtain ⟨v, hv, rx⟩ := r1.get hx
    refine ⟨⟨vs, v, ex_src e2 h1, rfl, hv⟩, fun z H'' ⟨T, x', hz, hn, hH, p1⟩ => ?_⟩
    subst hz hH
    have ex : v = x' := Option.some.inj (hv.symm.trans (p1 vs (ex_src e2 h1)))
    subst ex
    exact ⟨upd G' T (.tup [.int (i : Nat), v]), .new e3 hn, .tup upd_same (.cons (.int _) (.cons (rx.mono (e1.trans (.new (e3.fresh hn)))) .nil))⟩, fun i G' H' hl e1 e2 e3 => by
    refine ⟨vs, ex_src e2 h1, rfl, ?_⟩
    unfold enumD at hl
    rw [List.length_zipWith, List.length_range, r1.len] at hl
    omega⟩
end
def zqU (PL : List D → Prop) : List D → Prop := fun ds => match ds with | [x, y] => (match seqO x, seqO y with | some a, some b => PL (zipD a b) | _, _ => False) | _ => False
def eqU (PL : List D → Prop) : List D → Prop := fun ds => match ds with | [x] => (match seqO x with | some a => PL (enumD a) | _ => False) | _ => False
def iZipU (ms : Env → M (List D)) : Env → M (List D) := fun env PL => ms env (zqU PL)
def iEnU (ms : Env → M (List D)) : Env → M (List D) := fun env PL => ms env (eqU PL)
section
variable {X : Cx} {e c : Expr} {pos tpos p : Pos} {elts : List Expr} {kk : Nat} {ms : Env → M (List D)}
theorem zqU_inv {PL : List D → Prop} {ds : List D} (h : zqU PL ds) : ∃ x y a b, ds = [x, y] ∧ seqO x = some a ∧ seqO y = some b ∧ PL (zipD a b) := by
  unfold zqU at h
  split at h
  · rename_i x y
    split at h
    · rename_i a b e1 e2; exact ⟨x, y, a, b, rfl, e1, e2, h⟩
    · exact h.elim
  · exact h.elim
theorem eqU_inv {PL : List D → Prop} {ds : List D} (h : eqU PL ds) : ∃ x a, ds = [x] ∧ seqO x = some a ∧ PL (enumD a) := by
  unfold eqU at h
  split at h
  · rename_i x
    split at h
    · rename_i a e1; exact ⟨x, a, rfl, e1, h⟩
    · exact h.elim
  · exact h.elim
theorem bi_zipU (hm : X.mg "zip" = none) (ha : BA X [e, c] ms) (hg : Gl X "zip" := by rfl) (hs : starEach [e, c] X.env = (false, eval e X.env) :: starEach [c] X.env := by rfl) (hpl : (backTo pos (starEach [c] X.env)).any (·.1) = false := by rfl) :
    BI X (.Tuple elts kk tpos) (.Call (.Name "zip" p) [e, c] [] pos) (iZipU ms) :=
  pi_imp (pi_zipU hg hm ha hs hpl) fun σ H R ⟨G0, H0, G, env, P, ok, q, k⟩ => ⟨G0, H0, G, env, _, ok, q, fun ds vs G' H' p r y => by
    obtain ⟨x1, x2, a, b, rfl, e1, e2, pl⟩ := zqU_inv p
    obtain ⟨v, w, rfl, h1, h2⟩ := y.two_inv
    obtain ⟨s1, xs, v1, a1, b1⟩ := repB_src r.b h1 e1
    obtain ⟨s2, ys, v2, a2, b2⟩ := repB_src r.b h2 e2
    exact ⟨v, w, s1, s2, xs, ys, rfl, v1, v2, a1, a2, k _ _ _ _ pl r (it_zu a1 a2 b1 b2)⟩⟩
theorem bi_enumU (hm : X.mg "enumerate" = none) (ha : BA X [e] ms) (hg : Gl X "enumerate" := by rfl) (hs : starEach [e] X.env = [(false, eval e X.env)] := by rfl) :
    BI X (.Tuple elts kk tpos) (.Call (.Name "enumerate" p) [e] [] pos) (iEnU ms) :=
  pi_imp (pi_enumU hg hm ha hs) fun σ H R ⟨G0, H0, G, env, P, ok, q, k⟩ => ⟨G0, H0, G, env, _, ok, q, fun ds vs G' H' p r y => by
    obtain ⟨x1, a, rfl, e1, pl⟩ := eqU_inv p
    obtain ⟨v, rfl, h1⟩ := y.one_inv
    obtain ⟨s1, xs, v1, a1, b1⟩ := repB_src r.b h1 e1
    exact ⟨v, s1, xs, rfl, v1, a1, k _ _ _ _ pl r (it_eu a1 b1)⟩⟩
theorem gi_zipU (hm : X.mg "zip" = none) (ha : GA X [e, c] ms) (hg : Gl X "zip" := by rfl) (hs : starEach [e, c] X.env = (false, eval e X.env) :: starEach [c] X.env := by rfl) (hpl : (backTo pos (starEach [c] X.env)).any (·.1) = false := by rfl) :
    GI X (.Tuple elts kk tpos) (.Call (.Name "zip" p) [e, c] [] pos) (iZipU ms) :=
  pi_imp (pi_zipU hg hm ha hs hpl) fun σ H R ⟨G0, H0, G, env, P, ok, q, k⟩ => ⟨G0, H0, G, env, _, ok, q, fun ds vs G' H' p r y => by
    obtain ⟨x1, x2, a, b, rfl, e1, e2, pl⟩ := zqU_inv p
    cases y with
    | cons h1 y =>
      cases y with
      | cons h2 y =>
        cases y
        obtain ⟨s1, xs, v1, a1, b1⟩ := rep_src h1 e1
        obtain ⟨s2, ys, v2, a2, b2⟩ := rep_src h2 e2
        exact ⟨_, _, s1, s2, xs, ys, rfl, v1, v2, ex_src r.b a1, ex_src r.b a2, k _ _ _ _ pl r (it_zu a1 a2 b1 b2)⟩⟩
theorem gi_enumU (hm : X.mg "enumerate" = none) (ha : GA X [e] ms) (hg : Gl X "enumerate" := by rfl) (hs : starEach [e] X.env = [(false, eval e X.env)] := by rfl) :
    GI X (.Tuple elts kk tpos) (.Call (.Name "enumerate" p) [e] [] pos) (iEnU ms) :=
  pi_imp (pi_enumU hg hm ha hs) fun σ H R ⟨G0, H0, G, env, P, ok, q, k⟩ => ⟨G0, H0, G, env, _, ok, q, fun ds vs G' H' p r y => by
    obtain ⟨x1, a, rfl, e1, pl⟩ := eqU_inv p
    cases y with
    | cons h1 y =>
      cases y
      obtain ⟨s1, xs, v1, a1, b1⟩ := rep_src h1 e1
      exact ⟨_, s1, xs, rfl, v1, ex_src r.b a1, k _ _ _ _ pl r (it_eu a1 b1)⟩⟩
end
theorem n_iZipU {ms : Env → M (List D)} {env : Env} {P : List D → Prop} : iZipU ms env P = ms env (zqU P) := id rfl
theorem n_iEnU {ms : Env → M (List D)} {env : Env} {P : List D → Prop} : iEnU ms env P = ms env (eqU P) := id rfl
theorem zqU_e {P : List D → Prop} {x y : D} {a b : List D} (h1 : seqO x = some a) (h2 : seqO y = some b) : zqU P [x, y] = P (zipD a b) := by unfold zqU; simp only [h1, h2]
theorem eqU_e {P : List D → Prop} {x : D} {a : List D} (h1 : seqO x = some a) : eqU P [x] = P (enumD a) := by unfold eqU; simp only [h1]
theorem eqU_l {P : List D → Prop} {xs : List D} : eqU P [.lst xs] = P (enumD xs) := id rfl
theorem zqU_ll {P : List D → Prop} {xs : List D} {ys : List D} : zqU P [.lst xs, .lst ys] = P (zipD xs ys) := id rfl
theorem zqU_lt {P : List D → Prop} {xs : List D} {ys : List D} : zqU P [.lst xs, .tup ys] = P (zipD xs ys) := id rfl
theorem zqU_ls {P : List D → Prop} {xs : List D} {ys : List Nat} : zqU P [.lst xs, .str ys] = P (zipD xs (signsD ys)) := id rfl
theorem eqU_t {P : List D → Prop} {xs : List D} : eqU P [.tup xs] = P (enumD xs) := id rfl
theorem zqU_tl {P : List D → Prop} {xs : List D} {ys : List D} : zqU P [.tup xs, .lst ys] = P (zipD xs ys) := id rfl
theorem zqU_tt {P : List D → Prop} {xs : List D} {ys : List D} : zqU P [.tup xs, .tup ys] = P (zipD xs ys) := id rfl
theorem zqU_ts {P : List D → Prop} {xs : List D} {ys : List Nat} : zqU P [.tup xs, .str ys] = P (zipD xs (signsD ys)) := id rfl
theorem eqU_s {P : List D → Prop} {xs : List Nat} : eqU P [.str xs] = P (enumD (signsD xs)) := id rfl
theorem zqU_sl {P : List D → Prop} {xs : List Nat} {ys : List D} : zqU P [.str xs, .lst ys] = P (zipD (signsD xs) ys) := id rfl
theorem zqU_st {P : List D → Prop} {xs : List Nat} {ys : List D} : zqU P [.str xs, .tup ys] = P (zipD (signsD xs) ys) := id rfl
theorem zqU_ss {P : List D → Prop} {xs : List Nat} {ys : List Nat} : zqU P [.str xs, .str ys] = P (zipD (signsD xs) (signsD ys)) := id rfl
theorem eqU_k {P : List D → Prop} {xs : List D} : eqU P [.kt xs] = P (enumD xs) := id rfl
end G
set_option Elab.async false
set_option linter.all false
set_option maxRecDepth 100000
namespace G
open PySem PySem.Spec PyProof.Rows L2
/-! ### l.count(k), l.index(x), l[i] += k -/
def dLCount : D → List D → M D
  | .lst ds, [.int k] => fun P => match intsD ds with | some ns => P (.int (ns.count k : Nat)) | none => False
  | _, _ => stuck
/-- the first place of an equal one -/
def idxL (d : D) : List D → Option Nat
  | [] => none
  | x :: r => if eqv x d then some 0 else (idxL d r).map (· + 1)
def dLIndex : D → List D → M D
  | .lst ds, [d] => fun P => (okD deep d = true ∧ okD deep (.lst ds) = true) ∧ match idxL d ds with | some j => P (.int (j : Nat)) | none => False
  | _, _ => stuck
theorem idxL_some {d : D} : ∀ {ds : List D} {j : Nat}, idxL d ds = some j → ∃ z, ds[j]? = some z ∧ eqv z d = true ∧ ∀ m z', m < j → ds[m]? = some z' → eqv z' d = false
  | [], j, h => by cases h
  | x :: r, j, h => by
    unfold idxL at h
    by_cases e : eqv x d = true
    · rw [if_pos e] at h; cases h
      exact ⟨x, rfl, e, fun m z' hm => absurd hm (by omega)⟩
    · rw [if_neg e] at h
      obtain ⟨i, hi, rfl⟩ := Option.map_eq_some_iff.mp h
      obtain ⟨z, h1, h2, h3⟩ := idxL_some hi
      refine ⟨z, by simpa using h1, h2, fun m z' hm hz => ?_⟩
      cases m with
      | zero => cases hz; simpa using e
      | succ m => exact h3 m z' (by omega) (by simpa using hz)
theorem toPs_get : ∀ {ds : List D} {j : Nat}, (toPs ds)[j]? = (ds[j]?).map toP
  | [], j => by simp [toPs]
  | x :: r, 0 => by simp [toPs]
  | x :: r, j + 1 => by simp [toPs, toPs_get (ds := r)]
section
variable {X : Cx}
theorem m_lcount : MtR X "list.count" (rGM X.K dLCount) := by
  intro pins s σ H x vs v us Q I rx rv ⟨G, d, ds, P, b, hd, he, hf, k⟩
  unfold dLCount at hf
  split at hf
  · obtain ⟨a, xs, rfl, h1, h2⟩ := hd.lst_inv b
    obtain ⟨w, rfl, h⟩ := he.one_inv
    cases h.int_inv
    split at hf
    · rename_i ns hn
      have e := h2.intl hn
      subst e
      exact mt_lcount pins s σ H _ _ v us Q I rx rv ⟨a, ns, _, rfl, rfl, .of h1, k _ _ _ _ hf (.refl b) (.int _)⟩
    · exact hf.elim
  · exact hf.elim
theorem m_lindex (hu : X.A.units + 65 < cLine) : MtR X "list.index" (rGM X.K dLIndex) := by
  intro pins s σ H x vs v us Q I rx rv ⟨G, d, ds, P, b, hd, he, hf, k⟩
  unfold dLIndex at hf
  split at hf
  · rename_i xs y
    obtain ⟨⟨o1, o2⟩, hf⟩ := hf
    obtain ⟨w, rfl, h⟩ := he.one_inv
    obtain ⟨d1, s1⟩ := h.dp b o1
    obtain ⟨d2, s2⟩ := hd.dp b o2
    obtain ⟨a, ys, rfl, h1, h2⟩ := hd.lst_inv b
    rw [toP] at d2 s2
    split at hf
    · rename_i j hj
      obtain ⟨z, g1, g2, g3⟩ := idxL_some hj
      refine mt_indexD hu pins s σ H _ _ v us Q I rx rv ⟨a, w, _, _, j, toP z, rfl, rfl, d2, d1, s2, s1, by rw [toPs_get, g1]; rfl, by rw [eqv_toP]; exact g2, fun m z' hm hz => ?_, k _ _ _ _ hf (.refl b) (.int _)⟩
      rw [toPs_get] at hz
      obtain ⟨z0, q1, rfl⟩ := Option.map_eq_some_iff.mp hz
      rw [eqv_toP]
      exact g3 m z0 hm q1
    · exact hf.elim
  · exact hf.elim
/-- l[i], by values -/
def rGetL : V → V → Hp → VK → Prop := fun o i H Q => ∃ p xs k v, o = .ref p ∧ i = .int k ∧ H p = some (.lst xs) ∧ atI xs k = some v ∧ Q v H
theorem get_list : PGet X rGetL := by
  intro pins s σ H o i ov iv Q I ro ri ⟨p, xs, k, z, e1, e2, hp, he, q⟩
  subst e1 e2
  cases ro
  obtain ⟨t, rfl⟩ := ri
  obtain ⟨its, r, pl, hz⟩ := I.list (SqL.of hp : SqL X.K H p xs)
  obtain ⟨j, h1, h2, h3, h4, h5⟩ := atI_get he
  obtain ⟨w, ew, rw'⟩ := r.get h2
  have hl := r.length
  have hn := line63
  have fin : EP X pins σ Q w s := ⟨z, H, I, rw', q⟩
  by_cases h0 : 0 ≤ k
  · have hj : k.toNat = j := by
      rw [seqIndex_of h0 h5] at h1
      exact Option.some.inj h1
    exact wpAny_getItem_list pl.isList h0 (by omega) (by rw [hj]; simpa using ew) fin
  · have hj : (k + (its.toArray.size : Int)).toNat = j := by
      rw [seqIndex_neg (by omega) h4] at h1
      rw [List.size_toArray, ← hl]
      exact Option.some.inj h1
    exact wpAny_getItem_list_neg pl.isList (by omega) (by rw [List.size_toArray] <;> omega) (by omega) (by rw [hj]; simpa using ew) fin
end
/-- c[k] op= e, c a list -/
def sAugS (i : Nat) (f : D → D → M D) (mk mv : EM) : SM := fun E env => match getS env i with
  | .ow (.lst _) => mk env fun k => match getS env i, k with
    | .ow (.lst ds), .int j => (match atD ds j with
      | some d => mv env fun e => f d e fun r => match ixD ds.length j with | some n => E.nx (setS env i (.ow (.lst (ds.set n r)))) | none => False
      | none => False)
    | _, _ => False
  | _ => False
section
variable {X : Cx} {st : Stmt}
theorem gs_augS (i : Nat) {f : D → D → M D} {mk mv : EM} (h : PS X st (tAugS (tVar i) (tG X.K mk) (tG X.K mv) rGetL (rG2 X.K f) rSetL)) : GS X st (sAugS i f mk mv) :=
  ps_imp h fun Dn σ H ⟨G0, H0, G, env, E, ok, q, k⟩ => by
    unfold sAugS at q
    split at q
    · rename_i ds0 e
      obtain ⟨a, hs, h0, hg, ho⟩ := ok.ow e
      refine ⟨.ref a, hs, G0, H0, G, env, _, ok, q, fun kd kv G2 H2 p2 r2 y2 => ?_⟩
      have ok2 := ok.mono r2
      obtain ⟨a', hs', h0', hg', ho'⟩ := ok2.ow e
      have : a' = a := by rw [hs] at hs'; cases hs'; rfl
      subst this
      rw [e] at p2
      cases kd <;> first | exact p2.elim | skip
      rename_i j
      cases y2
      cases ho' with
      | @lst ds vs hl hr =>
      simp only at p2
      split at p2
      · rename_i d hd
        obtain ⟨v, hv, rv⟩ := hr.at hd
        refine ⟨a', vs, j, v, rfl, rfl, hl, hv, G0, H0, G2, env, _, ok2, p2, fun ed ev G3 H3 p3 r3 y3 => ⟨G3, d, ed, _, r3.b, .rep (rv.mono r3.g), .rep y3, p3, fun rd rv' G4 H4 p4 r4 y4 => ?_⟩⟩
        have ok4 := (ok2.mono r3).mono r4
        obtain ⟨a2, hs2, h02, hg2, ho2⟩ := ok4.ow e
        have : a2 = a' := by rw [hs'] at hs2; cases hs2; rfl
        subst this
        cases ho2 with
        | @lst ds' vs' hl' hr' =>
        split at p4
        · rename_i n hn
          refine ⟨a2, vs', j, n, rfl, rfl, hl', ?_, k.nx _ _ _ _ p4 (ok4.put e hs2 h02 hg2 (.lst upd_same (hr'.set _ y4)))⟩
          rw [← hr'.len]; exact hn
        · exact p4.elim
      · exact p2.elim
    · exact q.elim
end
end G
set_option Elab.async false
set_option linter.all false
set_option maxRecDepth 100000
namespace G
open PySem PySem.Spec PyProof.Rows L2
open PySem.W (EachIs AllAlike Sortable alike dataLt dataLe readsAll_each sorted_data dataLe_eq minD maxD min_list_data max_list_data min_tuple_data max_tuple_data AlikeAll alike_unique reads_keeps)
/-! ### sorted, min and max of lists of any data that are alike -/
def leD (a b : D) : Bool := !dataLt (toP b) (toP a)
def tup1D : D → Bool
  | .tup (_ :: _) => true
  | .kt (_ :: _) => true
  | _ => false
def flatD : D → Bool
  | .int _ => true
  | .str _ => true
  | .bl _ => true
  | _ => false
def alikeD (ds : List D) : Bool := ds.all fun x => ds.all fun y => alike (toP x) (toP y)
def dSortD : List D → M D
  | [.lst ds] => fun P => (ds.all (okD 59) = true ∧ alikeD ds = true ∧ (ds.all tup1D || ds.all flatD) = true) ∧ P (.lst (ds.mergeSort leD))
  | _ => stuck
theorem each_of {K : PySem.W.Frag} {G : Hp} : ∀ {ds : List D} {vs : List V} {us : List Value}, RepL K G ds vs → Vals vs us → EachIs (fun u d => ∃ v, Rep K G d v ∧ RelV v u) us ds
  | _, _, _, .nil, r => by cases r; exact .nil
  | _, _, _, .cons h t, r => by
    cases r with
    | cons a b => exact .cons ⟨_, h, a⟩ (each_of t b)
theorem of_each {K : PySem.W.Frag} {G : Hp} : ∀ {ds : List D} {us : List Value}, EachIs (fun u d => ∃ v, Rep K G d v ∧ RelV v u) us ds → ∃ vs, RepL K G ds vs ∧ Vals vs us
  | _, _, .nil => ⟨[], .nil, .nil⟩
  | _, _, .cons ⟨v, h, r⟩ t => by
    obtain ⟨vs, a, b⟩ := of_each t
    exact ⟨v :: vs, .cons h a, .cons r b⟩
theorem alikeD_all {ds : List D} (h : alikeD ds = true) : AllAlike (ds.map toP) := by
  intro d hd e he
  obtain ⟨x, hx, rfl⟩ := List.mem_map.mp hd
  obtain ⟨y, hy, rfl⟩ := List.mem_map.mp he
  exact List.all_eq_true.mp (List.all_eq_true.mp h x hx) y hy
theorem sblD {ds : List D} (h : (ds.all tup1D || ds.all flatD) = true) : Sortable (ds.map toP) := by
  rw [Bool.or_eq_true] at h
  rcases h with h | h
  · refine .inl fun d hd => ?_
    obtain ⟨x, hx, rfl⟩ := List.mem_map.mp hd
    have := List.all_eq_true.mp h x hx
    cases x with
    | tup l => cases l with
      | nil => cases this
      | cons a r => exact ⟨toP a, toPs r, by rw [toP, toPs]⟩
    | kt l => cases l with
      | nil => cases this
      | cons a r => exact ⟨toP a, toPs r, by rw [toP, toPs]⟩
    | _ => cases this
  · refine .inr fun d hd => ?_
    obtain ⟨x, hx, rfl⟩ := List.mem_map.mp hd
    have := List.all_eq_true.mp h x hx
    cases x with
    | int i => exact ⟨by simp [toP], by simp [toP]⟩
    | str i => exact ⟨by simp [toP], by simp [toP]⟩
    | bl i => exact ⟨by simp [toP], by simp [toP]⟩
    | _ => cases this
section
variable {X : Cx}
theorem c_sortD (hu : X.A.units + 65 < cLine) : CallR X (.builtin "sorted") (rFC X.K dSortD) := by
  intro pins s σ H vs us Q I rv ⟨G, ds, P, b, hd, hf, k⟩
  unfold dSortD at hf
  split at hf
  · rename_i xs
    obtain ⟨⟨o1, o2, o3⟩, hf⟩ := hf
    obtain ⟨v, rfl, h⟩ := hd.one_inv
    obtain ⟨a, ys, rfl, h1, h2⟩ := h.lst_inv b
    obtain ⟨its, rv2, hl, hz⟩ := I.list (.of h1)
    rw [Vals.ref1 rv]
    have er := each_of h2 rv2
    obtain ⟨as, ra⟩ := Dp.readsAll I _ _ its (RepL.dp b h2 o1).1 rv2
    rw [toPs_map] at ra
    have er2 := readsAll_each toP ra
    have el := er.length
    have yl := h2.len
    refine sorted_data hl.isList er er2 (alikeD_all o2) (sblD o3) (by omega) (fun d hd => ?_) fun out ho eo => ?_
    · have := okD_depth 59 d (List.all_eq_true.mp o1 d hd)
      omega
    · obtain ⟨vs', r1, r2⟩ := of_each eo
      obtain ⟨ep, he'⟩ := PyProof.Rows.sortedAll_at s.heap its out.toArray
      have hp : H (s.heap.objs.size + 1) = none := I.hok.fresh (Nat.le_succ _)
      refine ⟨.ref _, upd H (s.heap.objs.size + 1) (.lst vs'), I.laid (t' := s.toks) (fun _ _ => PyProof.Rows.sortedAll_old) (Nat.le_succ _) ⟨by rw [r2.length]; omega, out, ep, r2, he'⟩, rfl, ?_⟩
      exact k _ _ G _ hf (.newO b hp) hp (b.fresh hp) (.lst upd_same r1)
  · exact hf.elim
end
/-! ### min, max -/
theorem minD_mem : ∀ (xs : List PyData) (x : PyData), minD x xs ∈ x :: xs := by
  intro xs
  unfold minD
  induction xs with
  | nil => intro x; exact List.mem_singleton.mpr rfl
  | cons y r ih =>
    intro x
    rw [List.foldl_cons]
    by_cases h : dataLt y x = true
    · rw [if_pos h]; exact List.mem_cons_of_mem _ (ih y)
    · rw [if_neg h]
      rcases List.mem_cons.mp (ih x) with e | e
      · rw [e]; exact List.mem_cons_self
      · exact List.mem_cons_of_mem _ (List.mem_cons_of_mem _ e)
theorem maxD_mem : ∀ (xs : List PyData) (x : PyData), maxD x xs ∈ x :: xs := by
  intro xs
  unfold maxD
  induction xs with
  | nil => intro x; exact List.mem_singleton.mpr rfl
  | cons y r ih =>
    intro x
    rw [List.foldl_cons]
    by_cases h : dataLt x y = true
    · rw [if_pos h]; exact List.mem_cons_of_mem _ (ih y)
    · rw [if_neg h]
      rcases List.mem_cons.mp (ih x) with e | e
      · rw [e]; exact List.mem_cons_self
      · exact List.mem_cons_of_mem _ (List.mem_cons_of_mem _ e)
theorem depth_le : ∀ {ds : List D}, ds.all (okD 59) = true → PyData.depthAll (ds.map toP) ≤ 59
  | [], _ => by simp [PyData.depthAll]
  | d :: r, h => by
    rw [List.all_cons, Bool.and_eq_true] at h
    have h1 := okD_depth 59 d h.1
    have h2 := depth_le h.2
    rw [List.map_cons, PyData.depthAll]
    omega
/-- the first item, of one or more: those that read as m -/
def someD (m : PyData → List PyData → PyData) : D → List D → M D := fun x xs P => ((x :: xs).all (okD 59) = true ∧ alikeD (x :: xs) = true ∧ (x :: xs).all (fun d => match d with | .non => false | _ => true) = true) ∧ ∀ d ∈ x :: xs, toP d = m (toP x) (xs.map toP) → P d
def dMinD : List D → M D
  | [.lst (x :: xs)] => someD minD x xs
  | [.tup (x :: xs)] => someD minD x xs
  | _ => stuck
def dMaxD : List D → M D
  | [.lst (x :: xs)] => someD maxD x xs
  | [.tup (x :: xs)] => someD maxD x xs
  | _ => stuck
theorem toP_non {d : D} (h : (match d with | .non => false | _ => true) = true) : toP d ≠ .none := by
  cases d with
  | non => cases h
  | _ => simp [toP]
theorem some_alike {x : D} {xs : List D} (o2 : alikeD (x :: xs) = true) (o3 : (x :: xs).all (fun d => match d with | .non => false | _ => true) = true) : AlikeAll (toP x :: xs.map toP) := by
  have al := alikeD_all o2
  refine ⟨fun p hp q hq => al p hp q hq, fun p hp => ?_⟩
  obtain ⟨d, hd, rfl⟩ := List.mem_map.mp (show p ∈ (x :: xs).map toP from hp)
  exact toP_non (List.all_eq_true.mp o3 d hd)
theorem each_get {R : Value → D → Prop} : ∀ {us : List Value} {ds : List D}, EachIs R us ds → ∀ {i : Nat} {u : Value}, us[i]? = some u → ∃ d, ds[i]? = some d ∧ R u d
  | _, _, .nil, _, _, h => by simp at h
  | _, _, .cons a t, 0, u, h => by
    have e := Option.some.inj (show some _ = some u from h)
    subst e
    exact ⟨_, rfl, a⟩
  | _, _, .cons a t, i + 1, u, h => by
    obtain ⟨d, h1, h2⟩ := each_get t (i := i) (u := u) (by simpa using h)
    exact ⟨d, by simpa using h1, h2⟩
section
variable {X : Cx}
theorem some_ans {G H : Hp} {pins : List (Addr × Obj)} {σ : L2.St} {s : Shared} {m : PyData → List PyData → PyData} {x : D} {xs : List D} {vs : List V} {its : List Value} {P : D → Prop} {Q : VK} {h' : Heap} {tk : Nat} {i : Nat} {u : Value} {as bs : List Addr} (hm : m (toP x) (xs.map toP) ∈ toP x :: xs.map toP)
    (I : Inv X pins σ H s) (b : Ex G H) (h2 : RepL X.K G (x :: xs) vs) (rv : Vals vs its) (ra : ReadsAll s.heap its ((x :: xs).map toP) as) (o2 : alikeD (x :: xs) = true) (hf : ∀ d ∈ x :: xs, toP d = m (toP x) (xs.map toP) → P d)
    (k : ∀ r v G' H', P r → Gr G H G' H' → Rep X.K G' r v → Q v H') (hv : its[i]? = some u) (hr : Reads h' u (m (toP x) (xs.map toP)) bs) (hk : ∀ c o, s.heap.get? c = some o → h'.get? c = some o) : EP X pins σ Q u { s with heap := h', toks := tk } := by
  have al := alikeD_all o2
  obtain ⟨d, hd, w, h3, r3⟩ := each_get (each_of h2 rv) hv
  obtain ⟨d', hd', as', r4⟩ := each_get (readsAll_each toP ra) hv
  rw [hd] at hd'
  cases hd'
  have hmem := List.mem_of_getElem? hd
  have e := alike_unique _ _ _ _ _ (al _ (List.mem_map.mpr ⟨d, hmem, rfl⟩) _ hm) (reads_keeps hk r4) hr
  exact ⟨w, H, I.kept hk, r3, k d w G H (hf d hmem e) (.refl b) h3⟩
theorem c_minD (hc : X.calm = true) (hu : X.A.units + 65 < cLine) : CallR X (.builtin "min") (rGC X.K dMinD) := by
  intro pins s σ H vs us Q I rv ⟨G, ds, P, b, hd, hf, k⟩
  unfold dMinD at hf
  split at hf
  · rename_i x xs
    obtain ⟨⟨o1, o2, o3⟩, hf⟩ := hf
    obtain ⟨v, rfl, h⟩ := hd.one_inv
    obtain ⟨a, ys, rfl, h1, h2⟩ := h.lst_inv b
    obtain ⟨its, rv2, hl, hz⟩ := I.list (.of h1)
    rw [Vals.ref1 rv]
    obtain ⟨as, ra⟩ := Dp.readsAll I _ _ its (RepL.dp b h2 o1).1 rv2
    rw [toPs_map] at ra
    have hdep := depth_le o1
    exact min_list_data (I.ok.hd hc) hl.isList ra (some_alike o2 o3) (by rw [List.map_cons] at hdep; omega) fun i v h' tk bs hv hr hk => some_ans (m := minD) (minD_mem _ _) I b h2 rv2 ra o2 hf k (i := i) (by simpa using hv) hr hk
  · rename_i x xs
    obtain ⟨⟨o1, o2, o3⟩, hf⟩ := hf
    obtain ⟨v, rfl, h⟩ := hd.one_inv
    obtain ⟨a, ys, rfl, h1, h2⟩ := h.tup_inv b
    obtain ⟨its, rv2, hl, hz⟩ := I.tuple h1
    rw [Vals.ref1 rv]
    obtain ⟨as, ra⟩ := Dp.readsAll I _ _ its (RepL.dp b h2 o1).1 rv2
    rw [toPs_map] at ra
    have hdep := depth_le o1
    exact min_tuple_data (I.ok.hd hc) hl ra (some_alike o2 o3) (by rw [List.map_cons] at hdep; omega) fun i v h' tk bs hv hr hk => some_ans (m := minD) (minD_mem _ _) I b h2 rv2 ra o2 hf k (i := i) (by simpa using hv) hr hk
  · exact hf.elim
theorem c_maxD (hc : X.calm = true) (hu : X.A.units + 65 < cLine) : CallR X (.builtin "max") (rGC X.K dMaxD) := by
  intro pins s σ H vs us Q I rv ⟨G, ds, P, b, hd, hf, k⟩
  unfold dMaxD at hf
  split at hf
  · rename_i x xs
    obtain ⟨⟨o1, o2, o3⟩, hf⟩ := hf
    obtain ⟨v, rfl, h⟩ := hd.one_inv
    obtain ⟨a, ys, rfl, h1, h2⟩ := h.lst_inv b
    obtain ⟨its, rv2, hl, hz⟩ := I.list (.of h1)
    rw [Vals.ref1 rv]
    obtain ⟨as, ra⟩ := Dp.readsAll I _ _ its (RepL.dp b h2 o1).1 rv2
    rw [toPs_map] at ra
    have hdep := depth_le o1
    exact max_list_data (I.ok.hd hc) hl.isList ra (some_alike o2 o3) (by rw [List.map_cons] at hdep; omega) fun i v h' tk bs hv hr hk => some_ans (m := maxD) (maxD_mem _ _) I b h2 rv2 ra o2 hf k (i := i) (by simpa using hv) hr hk
  · rename_i x xs
    obtain ⟨⟨o1, o2, o3⟩, hf⟩ := hf
    obtain ⟨v, rfl, h⟩ := hd.one_inv
    obtain ⟨a, ys, rfl, h1, h2⟩ := h.tup_inv b
    obtain ⟨its, rv2, hl, hz⟩ := I.tuple h1
    rw [Vals.ref1 rv]
    obtain ⟨as, ra⟩ := Dp.readsAll I _ _ its (RepL.dp b h2 o1).1 rv2
    rw [toPs_map] at ra
    have hdep := depth_le o1
    exact max_tuple_data (I.ok.hd hc) hl ra (some_alike o2 o3) (by rw [List.map_cons] at hdep; omega) fun i v h' tk bs hv hr hk => some_ans (m := maxD) (maxD_mem _ _) I b h2 rv2 ra o2 hf k (i := i) (by simpa using hv) hr hk
  · exact hf.elim
end
end G
set_option Elab.async false
set_option linter.all false
set_option maxRecDepth 100000
namespace G
open PySem PySem.Spec PyProof.Rows L2
open PySem.W (EachIs AllAlike Sortable list_sort_data dataLe_str)
/-! ### sorted(set(ints)) of a tuple -/
def rSetOfIT (K : PySem.W.Frag) (w : World) : List V → Hp → VK → Prop := fun vs H Q => ∃ (l : Addr) (ns : List Int), vs = [V.ref l] ∧ SqT K H l (ns.map V.int) ∧ ns.length < 64 ∧ ∀ (p : Addr) (c : Nat), H p = none → c ≤ ns.length → Q (.ref p) (upd H p (SetO w p (fun j => decide (j ∈ ns)) c))
def dSSetT : List D → M D
  | [.tup ds] => fun P => match intsD ds with | some ns => ns.length < 64 ∧ P (.lst ((usort ns).map .int)) | none => False
  | _ => stuck
section
variable {X : Cx}
theorem cr_setOfIT (hc : X.calm = true) : CallR X (.type "set") (rSetOfIT X.K X.w) := by
  intro pins s σ H vs us Q I r ⟨l, ns, e0, hq, h64, q⟩
  subst e0
  obtain ⟨its, rv, p, _⟩ := I.tuple hq
  rw [Vals.ref1 r]
  have hi : IntsAre its ns := rv.ints
  refine call_set_tupI ns (I.ok.hd hc) p (by simpa using hi) (by unfold scanBound; omega) fun h' tk c R hcn k => ?_
  exact ⟨.ref _, upd H s.heap.objs.size (SetO X.w s.heap.objs.size (fun j => decide (j ∈ ns)) c), I.laid (t' := tk) k (Nat.le_refl _) (setO_new R), rfl, q _ _ (I.hok.fresh (Nat.le_refl _)) hcn⟩
theorem fe_ssett {p p2 pos pos2 : Pos} (hc : X.calm = true) (z1 : X.mg "sorted" = none) (z2 : X.mg "set" = none) (ha : BA X [e] ms) (g1 : Gl X "sorted" := by rfl) (g2 : Gl X "set" := by rfl)
    (he : starEach [e] X.env = (false, eval e X.env) :: starEach [] X.env := by rfl) (hpl : (backTo pos2 (starEach [] X.env)).any (·.1) = false := by rfl)
    (he' : starEach [.Call (.Name "set" p2) [e] [] pos2] X.env = (false, eval (.Call (.Name "set" p2) [e] [] pos2) X.env) :: starEach [] X.env := by rfl) (hpl' : (backTo pos (starEach [] X.env)).any (·.1) = false := by rfl) :
    FE X (.Call (.Name "sorted" p) [.Call (.Name "set" p2) [e] [] pos2] [] pos) (eCall dSSetT ms) :=
  pe_imp (pe_callB (cr_sortedSet hc) g1 z1 (by decide +kernel) (pa_cons (pe_callTy (cr_setOfIT hc) g2 z2 (by decide +kernel) ha (by decide) (by decide) he hpl) pa_nil he') (by decide) (by decide) he' hpl') fun σ H Q ⟨G0, H0, G, env, P, ok, hm, k⟩ => by
    refine ⟨G0, H0, G, env, _, ok, hm, fun ds vs G1 H1 hP r1 q1 => ?_⟩
    unfold dSSetT at hP
    split at hP
    · obtain ⟨v, rfl, h⟩ := q1.one_inv
      obtain ⟨l, xs, rfl, h1, h2⟩ := h.tup_inv r1.b
      split at hP
      · rename_i ns hb
        have e := h2.intl hb
        subst e
        obtain ⟨h64, hP⟩ := hP
        refine ⟨l, ns, rfl, h1, h64, fun a c ha hcn => ⟨a, _, c, rfl, upd_same, by omega, fun out b asc mem len hb => ?_⟩⟩
        have em : out = usort ns := usort_eq asc fun k => by rw [mem]; simp
        subst em
        refine k _ b G1 _ hP ((r1.trans (.newO r1.b ha)).trans (.newO (Gr.newO r1.b ha).b hb)) (r1.h.fresh ((Ex.new ha).fresh hb)) (r1.b.fresh ((Ex.new ha).fresh hb)) ?_
        exact .lst upd_same (RepL.ints_map _)
      · exact hP.elim
    · exact hP.elim
end
/-! ### four names at once -/
def sP4 (k1 k2 k3 k4 : Bool) (i j l m : Nat) (a b c d : EM) : SM := fun E env => a env fun x => b env fun y => c env fun z => d env fun u => E.nx (setS (setS (setS (setS env i (slK k1 x)) j (slK k2 y)) l (slK k3 z)) m (slK k4 u))
theorem n_sP4 {k1 k2 k3 k4 : Bool} {i j l m : Nat} {a b c d : EM} {E : DE} {env : Env} : sP4 k1 k2 k3 k4 i j l m a b c d E env = a env fun x => b env fun y => c env fun z => d env fun u => E.nx (setS (setS (setS (setS env i (slK k1 x)) j (slK k2 y)) l (slK k3 z)) m (slK k4 u)) := id rfl
section
variable {X : Cx} {st : Stmt}
abbrev tQuadC (K : PySem.W.Frag) (i j l m : Nat) (ta tb tc td : TE) : TS := tAsg (tTup (tCons ta (tCons tb (tCons tc (tCons td tNil))))) (gTup K 4 (gCons (gName i) (gCons (gName j) (gCons (gName l) (gCons (gName m) gNil)))))
theorem gs_p4c (k1 k2 k3 k4 : Bool) (i j l m : Nat) {a b c d : EM} (h : PS X st (tQuadC X.K i j l m (tK X.K k1 a) (tK X.K k2 b) (tK X.K k3 c) (tK X.K k4 d))) : GS X st (sP4 k1 k2 k3 k4 i j l m a b c d) :=
  ps_imp h fun Dn σ H ⟨G0, H0, G, env, E, ok, q, k⟩ => tK_step ok ok q fun d v G1 H1 p1 r1 o1 => tK_step (ok.mono r1) o1 p1 fun e w G2 H2 p2 r2 o2 => tK_step ((ok.mono r1).mono r2) o2 p2 fun f u G3 H3 p3 r3 o3 => tK_step (((ok.mono r1).mono r2).mono r3) o3 p3 fun g t G4 H4 p4 r4 o4 =>
    ⟨by show 4 ≤ sizeLine; decide, fun p hp => ⟨p, _, rfl, .of upd_same, rfl, v, [w, u, t], rfl, w, [u, t], rfl, u, [t], rfl, t, [], rfl, rfl, k.nx _ _ _ _ p4 (o4.mono (.newO r4.b hp))⟩⟩
end
end G
set_option Elab.async false
set_option linter.all false
set_option maxRecDepth 100000
namespace G
open PySem PySem.Spec PyProof.Rows L2
/-! ### tuple(range(n)), list(range(n)) -/
def eTupR (m : EM) : EM := fun env P => m env fun d => match d with | .int n => (0 ≤ n ∧ n ≤ 16777216) ∧ P (.tup (rngD 0 n.toNat)) | _ => False
def eLstR (m : EM) : EM := fun env P => m env fun d => match d with | .int n => (0 ≤ n ∧ n ≤ 16777216) ∧ P (.lst (rngD 0 n.toNat)) | _ => False
theorem rep_rng {K : PySem.W.Frag} {G : Hp} {n : Int} : RepL K G (rngD 0 n.toNat) (rgV 0 n) := by
  have e1 : rngD 0 n.toNat = ((List.range n.toNat).map fun i : Nat => (0 + (i : Int))).map D.int := by unfold rngD; rw [List.map_map]; rfl
  have e2 : rgV 0 n = ((List.range n.toNat).map fun i : Nat => (0 + (i : Int))).map V.int := by unfold rgV; rw [List.map_map, Int.sub_zero]; rfl
  rw [e1, e2]
  exact RepL.ints_map _
section
variable {X : Cx}
theorem ge_tupR {p p2 pos pos2 : Pos} {a : Expr} {m : EM} (hc : X.calm = true) (z1 : X.mg "tuple" = none) (z2 : X.mg "range" = none) (ha : GE X a m) (g1 : Gl X "tuple" := by rfl) (g2 : Gl X "range" := by rfl)
    (na2 : starEach [a] X.env = (false, eval a X.env) :: starEach [] X.env := by rfl)
    (na : starEach [.Call (.Name "range" p2) [a] [] pos2] X.env = (false, eval (.Call (.Name "range" p2) [a] [] pos2) X.env) :: starEach [] X.env := by rfl) :
    GE X (.Call (.Name "tuple" p) [.Call (.Name "range" p2) [a] [] pos2] [] pos) (eTupR m) :=
  pe_imp (pe_tupRg hc g1 z1 (prg_1 g2 z2 ha na2) na) fun σ H Q ⟨G0, H0, G, env, P, ok, hm, k⟩ => ⟨G0, H0, G, env, _, ok, hm, fun d v G1 H1 hP r1 q1 => by
    split at hP
    · rename_i n
      cases q1.int_inv
      exact ⟨n, rfl, RgOk.of_le (by decide) hP.1.2 (by decide) hP.1.1, fun q hq => k _ _ _ _ hP.2 (r1.trans (.new r1.b hq)) (.tup upd_same rep_rng)⟩
    · exact hP.elim⟩
theorem fe_lstR {p p2 pos pos2 : Pos} {a : Expr} {m : EM} (hc : X.calm = true) (z1 : X.mg "list" = none) (z2 : X.mg "range" = none) (ha : GE X a m) (g1 : Gl X "list" := by rfl) (g2 : Gl X "range" := by rfl)
    (na2 : starEach [a] X.env = (false, eval a X.env) :: starEach [] X.env := by rfl)
    (na : starEach [.Call (.Name "range" p2) [a] [] pos2] X.env = (false, eval (.Call (.Name "range" p2) [a] [] pos2) X.env) :: starEach [] X.env := by rfl) :
    FE X (.Call (.Name "list" p) [.Call (.Name "range" p2) [a] [] pos2] [] pos) (eLstR m) :=
  pe_imp (pe_listRg hc g1 z1 (prg_1 g2 z2 ha na2) na) fun σ H Q ⟨G0, H0, G, env, P, ok, hm, k⟩ => ⟨G0, H0, G, env, _, ok, hm, fun d v G1 H1 hP r1 q1 => by
    split at hP
    · rename_i n
      cases q1.int_inv
      exact ⟨n, rfl, RgOk.of_le (by decide) hP.1.2 (by decide) hP.1.1, fun q hq => k _ _ _ _ hP.2 (r1.trans (.newO r1.b hq)) (r1.h.fresh hq) (r1.b.fresh hq) (.lst upd_same rep_rng)⟩
    · exact hP.elim⟩
end
theorem n_eTupR {m : EM} {env : Env} {P : D → Prop} : eTupR m env P = m env (fun d => match d with | .int n => (0 ≤ n ∧ n ≤ 16777216) ∧ P (.tup (rngD 0 n.toNat)) | _ => False) := id rfl
theorem n_eLstR {m : EM} {env : Env} {P : D → Prop} : eLstR m env P = m env (fun d => match d with | .int n => (0 ≤ n ∧ n ≤ 16777216) ∧ P (.lst (rngD 0 n.toNat)) | _ => False) := id rfl
end G
set_option Elab.async false
set_option linter.all false
set_option maxRecDepth 100000
namespace G
open PySem PySem.Spec PyProof.Rows L2
/-! ### t[::-1] of a tuple -/
section
variable {prog : Program} {w : World} {A : Around} {E : Value → Shared → Prop} {s : Shared}
theorem adjust_rev (n : Nat) : Builtin.Slice.sliceAdjust none none (-1) (n : Int) = ((n : Int) - 1, -1) := by
  unfold Builtin.Slice.sliceAdjust
  simp
theorem places_rev (n : Nat) : Builtin.Slice.slicePlaces ((n : Int) - 1) (-1) (-1) = n := by
  unfold Builtin.Slice.slicePlaces
  have h1 : ¬ ((-1 : Int) > 0) := by omega
  simp only [h1, if_false]
  split
  · simp
  · omega
theorem sliceApplied_rev {sl : Addr} {n : Nat} {tw : Tok} {Q : Int × Int × Nat → Shared → Prop} (hs : s.heap.IsSliceOf sl .none .none (.int (-1) tw)) (h : Q ((n : Int) - 1, -1, n) s) :
    wpAny (model prog w) A (Builtin.Slice.sliceApplied (.ref sl) (pure (n : Int))) Q E s := by
  obtain ⟨os, hos, hcs, hds⟩ := id hs
  unfold Builtin.Slice.sliceApplied Builtin.Slice.sliceFields
  refine wpAny_bind (wpAny_bind (wpAny_field hos hds (x := .none) rfl (wpAny_bind (wpAny_field hos hds (x := .none) rfl (wpAny_bind (wpAny_field hos hds (x := .int (-1) tw) rfl (wpAny_pure ?_)))))))
  refine wpAny_bind (slicePart_int ?_)
  show wpAny _ _ (if ((-1 : Int) == 0) = true then _ else _) _ _ s
  rw [if_neg (by decide)]
  refine wpAny_bind (slicePart_none (wpAny_bind (slicePart_none (wpAny_bind (wpAny_pure ?_)))))
  show wpAny _ _ (match Builtin.Slice.sliceAdjust none none (-1) (n : Int) with | (lo, hi) => pure (lo, (-1 : Int), Builtin.Slice.slicePlaces lo hi (-1))) _ _ s
  rw [adjust_rev n]
  show wpAny _ _ (pure ((n : Int) - 1, (-1 : Int), Builtin.Slice.slicePlaces ((n : Int) - 1) (-1) (-1))) _ _ s
  rw [places_rev n]
  exact wpAny_pure h
theorem fm_map {f : Nat → Option Value} {g : Nat → Value} : ∀ (r : List Nat), (∀ k ∈ r, f k = some (g k)) → r.filterMap f = r.map g
  | [], _ => rfl
  | x :: r, h => by
    rw [List.filterMap_cons, h x List.mem_cons_self, List.map_cons, fm_map r fun k hk => h k (List.mem_cons_of_mem _ hk)]
theorem pick_rev (xs : Array Value) : ((List.range xs.size).filterMap fun (k : Nat) => xs[(((xs.size : Int) - 1) + (k : Int) * (-1)).toNat]?).toArray = xs.toList.reverse.toArray := by
  congr 1
  have e : ∀ (l : List Value), (List.range l.length).filterMap (fun (k : Nat) => l[(((l.length : Int) - 1) + (k : Int) * (-1)).toNat]?) = l.reverse := fun l => by
    refine List.ext_getElem? fun i => ?_
    have all : ∀ k ∈ List.range l.length, l[(((l.length : Int) - 1) + (k : Int) * (-1)).toNat]? = some (l.reverse.getD k default) := fun k hk => by
      have hk := List.mem_range.mp hk
      rw [List.getD_eq_getElem?_getD, List.getElem?_reverse hk, show (((l.length : Int) - 1) + (k : Int) * (-1)).toNat = l.length - 1 - k by omega, List.getElem?_eq_getElem (by omega)]
      rfl
    have : (List.range l.length).filterMap (fun (k : Nat) => l[(((l.length : Int) - 1) + (k : Int) * (-1)).toNat]?) = (List.range l.length).map fun k => l.reverse.getD k default := by
      exact fm_map _ all
    rw [this, List.getElem?_map]
    by_cases h : i < l.length
    · rw [List.getElem?_range h]
      show some (l.reverse.getD i default) = _
      rw [List.getD_eq_getElem?_getD, List.getElem?_eq_getElem (by rw [List.length_reverse]; exact h)]; rfl
    · rw [List.getElem?_eq_none (by rw [List.length_range]; omega), List.getElem?_eq_none (by rw [List.length_reverse]; omega)]; rfl
  have := e xs.toList
  simpa using this
theorem getItem_tuple_rev {t sl : Addr} {items : Array Value} {tw : Tok} {Q : Value → Shared → Prop} (ht : IsTup s.heap t items) (hs : s.heap.IsSliceOf sl .none .none (.int (-1) tw))
    (h : Q (.ref s.heap.objs.size) { s with heap := s.heap.push { cls := .type "tuple", data := .seq items.toList.reverse.toArray } })
    (hsz : items.size ≤ sizeLine) : wpAny (model prog w) A (getItem (.ref t) (.ref sl)) Q E s := by
  have hrev : sizeOk (.seq items.toList.reverse.toArray) := by
    show (items.toList.reverse.toArray).size ≤ sizeLine
    rw [List.size_toArray, List.length_reverse, Array.length_toList]
    omega
  obtain ⟨os, hos, hcs, hds⟩ := id hs
  have hTs : s.TypeIs (.ref sl) "slice" := ⟨os, hos, hcs⟩
  unfold getItem
  try with_reducible refine wpAny_holding ?_
  first | refine wpAny_bind (wpAny_pure ?_) | skip
  refine wpAny_bind (wpAny_sequenceKey ht.typeIs (by decide) ?_)
  refine wpAny_bind (wpAny_callSpecial?_slot (name := Str.ofString "__getitem__") ht.typeIs slot_tuple_getitem
    (wpAny_call_entry slot_tuple_getitem ht.typeIs entry_tuple_getitem ?_ (args_tuple_getitem _ _)))
  show wpAny _ _ (Builtin.Tuple.tupleItemsOf (.ref t) >>= _) _ _ s
  refine wpAny_bind (tupleItemsOf_ ht ?_)
  refine wpAny_bind (wpAny_typeOf hTs ?_)
  rw [if_pos (by decide)]
  refine wpAny_bind (sliceApplied_rev hs ?_)
  have hno : ¬ ((((items.size : Int) - 1) == 0 && (-1 : Int) == 1 && items.size == items.size) = true) := by
    rw [show ((-1 : Int) == 1) = false from rfl]; simp
  show wpAny _ _ (if (((items.size : Int) - 1) == 0 && (-1 : Int) == 1 && items.size == items.size) = true then _ else _) _ _ s
  rw [if_neg hno, pick_rev items]
  first
    | exact wpAny_bind (m := Builtin.Tuple.tupleExact _) (wpAny_newObj_type (wpAny_pure ⟨_, rfl, wpAny_pure h⟩) hrev)
    | exact wpAny_bind (m := Builtin.Tuple.tupleExact _) (wpAny_newObj_type (wpAny_bind (wpAny_pure (wpAny_pure ⟨_, rfl, wpAny_pure h⟩))) hrev)
    | exact wpAny_bind (wpAny_bind (m := Builtin.Tuple.tupleExact _) (wpAny_newObj_type (wpAny_pure (wpAny_pure ⟨_, rfl, wpAny_pure h⟩)) hrev))
    | exact wpAny_bind (wpAny_bind (m := Builtin.Tuple.tupleExact _) (wpAny_newObj_type (wpAny_pure ⟨_, rfl, wpAny_pure h⟩) hrev))
end
def dRevT : D → M D
  | .tup ds => ret (.tup ds.reverse)
  | _ => stuck
def eRevT (m : EM) : EM := eUn dRevT m
section
variable {X : Cx}
theorem ge_revT {e : Expr} {m : EM} {kk : Nat} {p1 p2 p3 pos : Pos} (he : BE X e m) : GE X (.Subscript e (.Slice none none (some (.UnaryOp .USub (.Constant (.int 1) kk p1) p2)) p3) pos) (eRevT m) := by
  refine ⟨fun pins s σ H Q I ⟨G0, H0, G, env, P, ok, q, k⟩ => ?_⟩
  have h1 : tB X.K m σ H (fun v H' => ∃ d G', dRevT d P ∧ RepB X.K G' H' d v ∧ Gr G H G' H') := ⟨G0, H0, G, env, _, ok, q, fun d v G1 H1 p r1 b1 => ⟨d, G1, p, b1, r1⟩⟩
  refine Subscript_ (thn (he.run pins s σ H _ I h1) fun v s1 ⟨x, H1, I1, r1, d, G', p, rb, gr⟩ => ?_)
  have hst : PO X (some (.UnaryOp .USub (.Constant (.int 1) kk p1) p2)) (tPart (tUn (rU fun i => .int (-i)) (tC (.int 1)))) := po_some (pe_un un_neg pe_int)
  refine wpAny_Slice (thn (po_none.run pins s1 σ H1 (fun o H2 => o = none ∧ H2 = H1) I1 ⟨rfl, rfl⟩) fun vl s2 ⟨l, H2, I2, pl, el, e2⟩ => ?_)
  subst el e2
  refine thn (po_none.run pins s2 σ H2 (fun o H3 => o = none ∧ H3 = H2) I2 ⟨rfl, rfl⟩) fun vu s3 ⟨u, H3, I3, pu, eu, e3⟩ => ?_
  subst eu e3
  refine thn (hst.run pins s3 σ H3 (fun o H4 => o = some (-1) ∧ H4 = H3) I3 ⟨1, rfl, -1, rfl, rfl, rfl⟩) fun vs s4 ⟨o, H4, I4, ps, eo, e4⟩ => ?_
  subst eo e4
  unfold dRevT at p
  split at p
  · obtain ⟨a, xs, rfl, ha, hr⟩ := rb.tup_inv gr.b
    cases r1
    obtain ⟨l1, rfl, el⟩ := IsPart.raw pl
    obtain ⟨u1, rfl, eu⟩ := IsPart.raw pu
    obtain ⟨w1, rfl, ew⟩ := IsPart.raw ps
    have el : l1 = none := by cases l1 <;> simp_all
    have eu : u1 = none := by cases u1 <;> simp_all
    subst el eu
    obtain ⟨tw, rfl⟩ : ∃ tw, w1 = some (-1, tw) := by
      cases w1 with
      | none => cases ew
      | some q => obtain ⟨i, tw⟩ := q; cases ew; exact ⟨tw, rfl⟩
    have I5 := I4.kept (t' := s4.toks) (h' := s4.heap.push { cls := .type "slice", data := .fields #[.none, .none, .int (-1) tw] }) fun b ob q => Heap.get?_push_of_some _ q
    obtain ⟨its, r, ht, hz⟩ := I5.tuple ha
    have hlen := r.length
    refine tail_any (ops := [.ref a, .ref s4.heap.objs.size]) ht.typeIs PyProof.Rows.slot_tuple_getitem.lookup ?_ (by with_unfolding_all rfl)
    refine getItem_tuple_rev (tw := tw) ht (Heap.IsSliceOf.new _ .none .none (.int (-1) tw)) ?_ (by rw [List.size_toArray]; omega)
    have hn := I5.hok.fresh (Nat.le_refl _)
    exact ⟨.ref _, _, I5.laid (t' := s4.toks) (o := .tup xs.reverse) (fun b ob q => Heap.get?_push_of_some _ q) (Nat.le_refl _) ⟨by rw [List.length_reverse]; exact hz, _, r.reverse, IsTup.new _ _⟩, rfl, k _ _ _ _ p (gr.trans (.new gr.b hn)) (.tup upd_same (hr.rev.mono (.new (gr.b.fresh hn))))⟩
  · exact p.elim
end
theorem n_eRevT {m : EM} {env : Env} {P : D → Prop} : eRevT m env P = m env (fun d => dRevT d P) := id rfl
theorem q_revT {ds : List D} {P : D → Prop} : dRevT (.tup ds) P = P (.tup ds.reverse) := id rfl
end G
set_option Elab.async false
set_option linter.all false
set_option maxRecDepth 100000
namespace G
open PySem PySem.Spec PyProof.Rows L2
open PySem.W (EachIs AllAlike Sortable list_sort_data dataLe_str)
/-! ### sorted of a text -/
section
variable {prog : Program} {w : World} {A : Around} {E : Value → Shared → Prop} {s : Shared}
theorem sorted_str {x : Str} {t : Tok} {R : Value → Shared → Prop} (hh : A.handled = none) (hn : x.cps.size ≤ sizeLine) (hu : A.units + 8 < cLine)
    (h : ∀ (h' g : Heap) (tk : Nat) (p : Addr) (out : List Value) (c : Nat), EachIs (fun u (c : Nat) => ∃ t, u = .str ⟨#[c]⟩ t) out (x.cps.toList.mergeSort (fun a b => decide ([a] ≤ [b]))) → (∀ c o, s.heap.get? c = some o → h'.get? c = some o) → h'.objs.size ≤ p → (∀ c o, h'.get? c = some o → g.get? c = some o) → g.get? p = some (seqObj "list" out.toArray c) → R (.ref p) { s with heap := g, toks := tk }) :
    wpAny (model prog w) A (call (.builtin "sorted") [.str x t]) R E s := by
  refine Calls.call_function_entry kind_sorted plain_sorted entry_sorted (args_sorted1 _) ?_
  unfold Builtin.«sorted»
  refine wpAny_bind (m := checkCount "sorted" 1 1 _) (wpAny_pure (wpAny_bind (wpAny_collect_str (by simp [hh]) x t (fun s' acc k1 eg ed eo hit => ?_) hn)))
  obtain ⟨h', g2, d', tk', os'⟩ := s'
  simp only at eg ed eo k1
  subst eg ed eo
  have e : EachIs (fun u (c : Nat) => ∃ t, u = .str ⟨#[c]⟩ t) acc.toList x.cps.toList := by
    refine EachIs.of_zip (by rw [Array.length_toList, Array.length_toList]; exact hit.1) fun p hp => ?_
    obtain ⟨i, hi⟩ := List.getElem?_of_mem hp
    obtain ⟨h1, h2⟩ := List.getElem?_zip_eq_some.mp hi
    rw [Array.getElem?_toList] at h1 h2
    obtain ⟨c, u, e1, e2⟩ := hit.2 i p.1 h1
    rw [h2] at e1
    injection e1 with e1
    exact ⟨u, by rw [e2, e1]⟩
  have el := e.length
  refine wpAny_bind (wpAny_newList ?_ (by rw [el, Array.length_toList]; exact hn))
  have here : (h'.push (seqObj "list" acc.toList.toArray 0)).get? h'.objs.size = some (seqObj "list" acc.toList.toArray 0) := Heap.get?_push_size _ rfl
  have er : EachIs (fun v (c : Nat) => ∃ as, Reads (h'.push (seqObj "list" acc.toList.toArray 0)) v (PyData.str ⟨#[c]⟩) as ∧ h'.objs.size ∉ as) acc.toList x.cps.toList := e.mono fun v c hv => by
    obtain ⟨t, rfl⟩ := hv
    exact ⟨_, Reads.str _ _, by simp⟩
  refine wpAny_bind (wpAny_holding (list_sort_data (s := { s with heap := h'.push (seqObj "list" acc.toList.toArray 0), toks := tk' }) (n := 0) here e er (AllAlike.of fun _ _ => by simp [PySem.W.alike]) (Sortable.others fun _ => ⟨by simp, by simp⟩) (by rw [Array.length_toList]; exact hn) (fun c _ => ?_) fun out ho eo => ?_))
  · show A.in1.units + 1 + 0 < cLine
    have : A.in1.units = A.units + 1 := by rfl
    omega
  · obtain ⟨c, hc⟩ := sortedHeap_at (vs := acc.toList) (out := out.toArray) here
    refine wpAny_pure ⟨_, rfl, h h' _ tk' h'.objs.size out c ?_ k1 (Nat.le_refl _) (fun d o q2 => ?_) hc⟩
    · rw [dataLe_str] at eo
      exact eo
    · have lt := Heap.lt_size q2
      rw [sortedHeap_old (Nat.ne_of_lt lt) (by rw [size_push']; exact Nat.lt_succ_of_lt lt)]
      exact Heap.get?_push_of_some _ q2
end
/-- insertion sort of signs -/
def insN (x : Nat) : List Nat → List Nat
  | [] => [x]
  | y :: r => if x ≤ y then x :: y :: r else y :: insN x r
def nsort (l : List Nat) : List Nat := l.foldr insN []
theorem insN_perm {x : Nat} : ∀ {l : List Nat}, (insN x l).Perm (x :: l)
  | [] => .refl _
  | y :: r => by
    unfold insN
    by_cases h : x ≤ y
    · rw [if_pos h]
    · rw [if_neg h]; exact ((insN_perm (l := r)).cons y).trans (.swap x y r)
theorem nsort_perm : ∀ {l : List Nat}, (nsort l).Perm l
  | [] => .refl _
  | x :: r => (insN_perm (x := x) (l := nsort r)).trans ((nsort_perm (l := r)).cons x)
theorem insN_asc {x : Nat} : ∀ {l : List Nat}, l.Pairwise (· ≤ ·) → (insN x l).Pairwise (· ≤ ·)
  | [], _ => List.pairwise_singleton _ _
  | y :: r, h => by
    obtain ⟨h1, h2⟩ := List.pairwise_cons.mp h
    unfold insN
    by_cases hx : x ≤ y
    · rw [if_pos hx]
      refine List.pairwise_cons.mpr ⟨fun k hk => ?_, h⟩
      rcases List.mem_cons.mp hk with rfl | hk
      · exact hx
      · have := h1 k hk; omega
    · rw [if_neg hx]
      refine List.pairwise_cons.mpr ⟨fun k hk => ?_, insN_asc h2⟩
      rcases List.mem_cons.mp ((insN_perm (x := x) (l := r)).mem_iff.mp hk) with rfl | hk
      · omega
      · exact h1 k hk
theorem nsort_asc : ∀ {l : List Nat}, (nsort l).Pairwise (· ≤ ·)
  | [] => .nil
  | x :: r => insN_asc (nsort_asc (l := r))
theorem le_one {a b : Nat} : ([a] ≤ [b]) ↔ a ≤ b := by
  simp [List.cons_le_cons_iff]
  omega
theorem sort_signs (l : List Nat) : l.mergeSort (fun a b => decide ([a] ≤ [b])) = nsort l := by
  have e : (fun a b : Nat => decide ([a] ≤ [b])) = fun a b => decide (a ≤ b) := by
    funext a b; rw [Bool.eq_iff_iff, decide_eq_true_iff, decide_eq_true_iff, le_one]
  rw [e]
  refine List.Perm.eq_of_pairwise (le := fun a b => a ≤ b) (fun a b _ _ h1 h2 => Nat.le_antisymm h1 h2) ?_ nsort_asc ((List.mergeSort_perm _ _).trans nsort_perm.symm)
  have := List.pairwise_mergeSort (le := fun a b : Nat => decide (a ≤ b)) (fun a b c h1 h2 => by
    rw [decide_eq_true_iff] at *; omega) (fun a b => by rw [Bool.or_eq_true, decide_eq_true_iff, decide_eq_true_iff]; omega) l
  exact this.imp fun h => of_decide_eq_true h
def dSortS : List D → M D
  | [.str s] => fun P => s.length ≤ lim ∧ P (.lst (signsD (nsort s)))
  | _ => stuck
section
variable {X : Cx}
theorem c_sortS (hc : X.calm = true) (hu : X.A.units + 65 < cLine) : CallR X (.builtin "sorted") (rFC X.K dSortS) := by
  intro pins s σ H vs us Q I rv ⟨G, ds, P, b, hd, hf, k⟩
  unfold dSortS at hf
  split at hf
  · rename_i x
    obtain ⟨hl, hf⟩ := hf
    obtain ⟨v, rfl, h⟩ := hd.one_inv
    obtain ⟨rfl, ho⟩ := h.str_inv
    cases rv with
    | cons r1 r2 =>
      cases r2
      obtain ⟨t, rfl⟩ := r1
      refine sorted_str (I.ok.hd hc) ?_ (by omega) fun h' g tk p out c eo k1 hp k2 hg => ?_
      · have := lim_le hl
        simpa using this
      · have I1 : Inv X pins σ H { s with heap := h', toks := tk } := I.kept k1
        rw [show (⟨x.toArray⟩ : Str).cps.toList = x by simp, sort_signs] at eo
        have hpn : H p = none := I1.hok.fresh hp
        have vals : Vals ((nsort x).map fun c => V.str ⟨#[c]⟩) out := by
          clear hf hg k1 k2 I1
          generalize nsort x = l at eo
          induction eo with
          | nil => exact .nil
          | cons a _ ih =>
            obtain ⟨t, rfl⟩ := a
            exact .cons ⟨t, rfl⟩ ih
        refine ⟨.ref p, upd H p (.lst ((nsort x).map fun c => V.str ⟨#[c]⟩)), I1.laid (t' := tk) k2 hp ⟨?_, out, c, vals, hg⟩, rfl, ?_⟩
        · rw [List.length_map, nsort_perm.length_eq]
          exact lim_le hl
        · refine k _ p G _ hf (.newO b hpn) hpn (b.fresh hpn) (.lst upd_same (RepL.signs ?_))
          unfold sOk at ho ⊢
          rw [nsort_perm.all_eq]
          exact ho
  · exact hf.elim
end
end G
set_option Elab.async false
set_option linter.all false
set_option maxRecDepth 100000
namespace G
open PySem PySem.Spec PyProof.Rows L2
/-! ### s.index(t) -/
def dSIndex : D → List D → M D
  | .str s, [.str t] => fun P => match Builtin.Str.occurrences ⟨s.toArray⟩ ⟨t.toArray⟩ 0 (Str.length ⟨s.toArray⟩) 1 with | i :: _ => P (.int (i : Nat)) | [] => False
  | _, _ => stuck
/-! ### membership in a constant tuple -/
def dInK : D → D → M D
  | d, .kt xs => ask (okD deep d = true ∧ okD deep (.kt xs) = true) (ret (.bl (memD d xs)))
  | d, c => dInA d c
def dNotInK : D → D → M D
  | d, .kt xs => ask (okD deep d = true ∧ okD deep (.kt xs) = true) (ret (.bl (!memD d xs)))
  | d, c => dNotInA d c
section
variable {X : Cx}
theorem m_sindex : MtR X "str.index" (rGM X.K dSIndex) := by
  intro pins s σ H x vs v us Q I rx rv ⟨G, d, ds, P, b, hd, he, hf, k⟩
  unfold dSIndex at hf
  split at hf
  · rename_i a c
    obtain ⟨rfl, _⟩ := hd.str_inv
    obtain ⟨w, rfl, h⟩ := he.one_inv
    obtain ⟨rfl, _⟩ := h.str_inv
    obtain ⟨t, rfl⟩ := rx
    cases rv with
    | cons r1 rs =>
      cases rs
      obtain ⟨u, rfl⟩ := r1
      split at hf
      · rename_i i r e
        exact PySem.SC.index e ⟨.int (i : Nat), H, I.tok _, ⟨_, rfl⟩, k _ _ _ _ hf (.refl b) (.int _)⟩
      · exact hf.elim
  · exact hf.elim
theorem op_dInK (hu : X.A.units + 65 < cLine) : OpR X (compareOp .In) (rG2 X.K dInK) := by
  intro pins s σ H x y v u Q I rx ry ⟨G, d, e, P, b, hd, he, hf, k⟩
  unfold dInK at hf
  split at hf
  · obtain ⟨ho, hf⟩ := hf
    obtain ⟨d1, s1⟩ := hd.dp b ho.1
    obtain ⟨d2, s2⟩ := he.dp b ho.2
    rw [toP] at d2 s2
    obtain ⟨as, r1⟩ := Dp.reads I _ _ v d1 rx
    obtain ⟨bs, r2⟩ := Dp.reads I _ _ u d2 ry
    have c := SeqAt.canLay_of_shaped s2
    refine SeqAt.in_tuple_reads r2 r1 (by simpa [PyData.canLay0] using c) (SeqAt.canLay_of_shaped s1) (room_in s1 hu) ⟨.bl _, H, I, rfl, ?_⟩
    rw [any_toP]
    exact k _ _ G H hf (.refl b) (.bl _)
  · exact op_dInA hu pins s σ H x y v u Q I rx ry ⟨G, _, _, P, b, hd, he, hf, k⟩
theorem op_dNotInK (hu : X.A.units + 65 < cLine) : OpR X (compareOp .NotIn) (rG2 X.K dNotInK) := by
  intro pins s σ H x y v u Q I rx ry ⟨G, d, e, P, b, hd, he, hf, k⟩
  unfold dNotInK at hf
  split at hf
  · obtain ⟨ho, hf⟩ := hf
    obtain ⟨d1, s1⟩ := hd.dp b ho.1
    obtain ⟨d2, s2⟩ := he.dp b ho.2
    rw [toP] at d2 s2
    obtain ⟨as, r1⟩ := Dp.reads I _ _ v d1 rx
    obtain ⟨bs, r2⟩ := Dp.reads I _ _ u d2 ry
    have c := SeqAt.canLay_of_shaped s2
    refine SeqAt.notIn_tuple_reads r2 r1 (by simpa [PyData.canLay0] using c) (SeqAt.canLay_of_shaped s1) (room_in s1 hu) ⟨.bl _, H, I, rfl, ?_⟩
    rw [any_toP]
    exact k _ _ G H hf (.refl b) (.bl _)
  · exact op_dNotInA hu pins s σ H x y v u Q I rx ry ⟨G, _, _, P, b, hd, he, hf, k⟩
end
theorem q_inK {d : D} {xs : List D} {Q : D → Prop} : dInK d (.kt xs) Q = ((okD deep d = true ∧ okD deep (.kt xs) = true) ∧ Q (.bl (memD d xs))) := id rfl
theorem q_ninK {d : D} {xs : List D} {Q : D → Prop} : dNotInK d (.kt xs) Q = ((okD deep d = true ∧ okD deep (.kt xs) = true) ∧ Q (.bl (!memD d xs))) := id rfl
end G
set_option Elab.async false
set_option linter.all false
set_option maxRecDepth 100000
set_option exponentiation.threshold 300
namespace G
open PySem PySem.Spec PyProof.Rows L2
/-! ### a draw of any number below 2 ^ 62 -/
abbrev qDivW : R2 := rI CDivW fun i j => .int (i / j)
section
variable {P : Program} {w : World} {K : PySem.W.Frag} {mg : Str → Option Value} {base : Heap} {f : Addr} {fd : FuncData} {ps : List Str} {k : Nat}
def spRollW : Sp := fun vs H Q _ => ∃ a c d n, vs = [.ref a, .int n] ∧ H a = some (.lst [.int c, .int d]) ∧ cupOk c d ∧ (0 < n ∧ n < 4611686018427387904) ∧ ∀ r c' d', 0 ≤ r → r < n → cupOk c' d' → Q (.int r) (upd H a (.lst [.int c', .int d']))
def dRollW : List D → M D
  | [.cup, .int n] => fun P => (0 < n ∧ n < 4611686018427387904) ∧ ∀ r, 0 ≤ r → r < n → P (.int r)
  | _ => stuck
theorem roll_okW (F : FnOk P w K mg base CX0 k f fd ps spRollW) (hps : ps.length = 2) : FnOk P w K mg base CX0 k f fd ps (SpG K dRollW) := by
  refine ⟨fun vs H Q E ⟨G, ds, Pd, b, r, hm, _⟩ => ?_, fun A outer s H args us vs Q E hr he hb rv ⟨G, ds, Pd, b, r, hm, kk⟩ => ?_⟩
  · unfold dRollW at hm
    split at hm
    · rw [← r.len, hps]; rfl
    · exact hm.elim
  · unfold dRollW at hm
    split at hm
    · cases r with
      | cons h1 r => cases r with
        | cons h2 r =>
          cases r
          cases h2
          cases h1 with
          | @cup a ha =>
            have hH := b _ _ ha
            obtain ⟨c, d, hc, hok⟩ := cup_to he.hok hH
            have he2 : Env0 P w K mg base A outer s (upd H a (.lst [.int c, .int d])) := ⟨he.frames, he.mod, fun b o e => ⟨(he.bs b o e).1, by
                have e1 := (he.bs b o e).2
                rw [upd_ne (fun z => by rw [z, hH] at e1; cases e1)]; exact e1⟩, he.bsz, he.funs, fun b hb => by
                have e1 := he.frf b hb
                rw [upd_ne (fun z => by rw [z, hH] at e1; cases e1)]; exact e1, hok, he.bare⟩
            refine codeAny_mono (F.run A outer s _ args us _ (fun v H' => ∃ r c' d', v = .int r ∧ 0 ≤ r ∧ r < _ ∧ cupOk c' d' ∧ H' = upd (upd H a (.lst [.int c, .int d])) a (.lst [.int c', .int d'])) E hr he2 hb rv ⟨a, c, d, _, rfl, upd_same, hc, hm.1, fun r c' d' h0 h1 h2 => ⟨r, c', d', rfl, h0, h1, h2, rfl⟩⟩) fun r s' hq => ?_
            cases r with
            | error e => exact hq
            | ok fl =>
              cases fl with
              | next => exact hq
              | brk => exact hq
              | cont => exact hq
              | ret u =>
                obtain ⟨v, H', ho, hg, un, hk2, rr, r, c', d', rfl, h0, h1, h2, rfl⟩ := hq
                rw [upd_upd] at un hk2
                have hk3 := cup_from hk2 upd_same h2
                rw [upd_upd] at hk3
                have eH : upd H a (.ext (cupφ a)) = H := by
                  funext x
                  by_cases hx : x = a
                  · subst hx; rw [upd_same, hH]
                  · rw [upd_ne hx]
                have un1 := un_in hH (by intro _ z; cases z) (by intro _ _ z; cases z) (by intro _ z; cases z) (by intro _ z; cases z) (by intro _ _ z; cases z) (by intro _ z; cases z) un
                have un2 := un_out (u := .ext (cupφ a)) (a := a) upd_same (by intro _ z; cases z) (by intro _ _ z; cases z) (by intro _ z; cases z) un1
                rw [upd_upd, eH] at un2
                rw [eH] at hk3
                exact ⟨.int r, H, ho, hg, un2, hk3, rr, kk _ _ G H (hm.2 r h0 h1) (.refl b) (.int _)⟩
    · exact hm.elim
end
def rollTW (K : PySem.W.Frag) (A B M C M2 E : Int) : TS :=
  tSeq (tIfS (tTest (tOp qGt (atC K 0) (tC (.int 0))))
    (tSeq (tAsg (tOp qMod (tCB qInt (tCons (atC K 0) tNil)) (tVar 1)) (gName 2)) (tSeq (tAsg (tOp qDivW (atC K 0) (tVar 1)) (gSub (tVar 0) (tC (.int 0)) rSetL)) (tRet (tVar 2)))) tNext)
  (tSeq (tAsg (tOp qMod (tCB qInt (tCons (tOp qAdd (tOp qMul (atC K 1) (tC (.int A))) (tC (.int B))) tNil)) (tC (.int M))) (gSub (tVar 0) (tC (.int 1)) rSetL))
  (tSeq (tAsg (tOp qMod (tCB qInt (tCons (tOp qMul (atC K 1) (tOp qAdd (atC K 1) (tC (.int C)))) tNil)) (tC (.int M2))) (gName 3))
  (tRet (tOp qMod (tCB qInt (tCons (tOp qDiv (tVar 3) (tC (.int E))) tNil)) (tVar 1)))))
theorem roll_readW {K : PySem.W.Frag} {A B M C M2 E : Int} (hA : -(2 ^ 64) < A ∧ A < 2 ^ 64) (hM : 0 < M ∧ M < 2 ^ 32) (hM2 : 0 < M2) (hE : 0 < E ∧ E < 1073741824) {vs : List V} {H : Hp} {Q : VK} {X : XK} (h : spRollW vs H Q X) :
    rollTW K A B M C M2 E { nx := fun _ H' => Q .non H', rt := Q } (L2.start ["cup", "many", "found", "deep"] vs) H := by
  obtain ⟨a, c, d, n, rfl, ha, hc, hn, k⟩ := h
  have hs : (L2.start ["cup", "many", "found", "deep"] [V.ref a, V.int n])[0]? = some (some (V.ref a)) := rfl
  show tTest (tOp qGt (atC K 0) (tC (.int 0))) _ _ _
  refine (atC_ok hs ha).1 ⟨c, 0, rfl, rfl, _, rfl, ?_⟩
  by_cases h0 : 0 < c
  · rw [decide_eq_true h0]
    refine iteT ?_
    refine (atC_ok hs ha).1 (.inl ⟨c, rfl, .int n, rfl, c, n, rfl, rfl, hn.1, ?_⟩)
    have hs2 : ((L2.start ["cup", "many", "found", "deep"] [V.ref a, V.int n]).set 2 (some (V.int (c % n))))[0]? = some (some (V.ref a)) := rfl
    refine (atC_ok hs2 ha).1 ⟨.int n, rfl, c, n, rfl, rfl, wide_div (b := 62) hn.1 (by omega) (by decide) (by decide), .ref a, hs2, a, _, 0, 0, rfl, rfl, ha, rfl, ?_⟩
    refine ⟨.int (c % n), rfl, ?_⟩
    refine k (c % n) (c / n) d (Int.emod_nonneg _ (by omega)) (Int.emod_lt_of_pos _ hn.1) ⟨Int.ediv_nonneg hc.1 (by omega), ?_, hc.2.2.1, hc.2.2.2⟩
    have := hc.2.1
    have h1 : (c / n).natAbs ≤ c.natAbs := Int.natAbs_ediv_le_natAbs c n
    omega
  · rw [decide_eq_false h0]
    refine iteF ?_
    refine (atC_ok hs ha).2 ⟨d, A, rfl, rfl, .inr hA, d * A, B, rfl, rfl, .inl ⟨_, rfl, _, M, rfl, rfl, hM.1, .ref a, hs, a, _, 1, 1, rfl, rfl, ha, rfl, ?_⟩⟩
    have e1 : upd H a (HO.lst ([V.int c, V.int d].set 1 (V.int ((d * A + B) % M)))) a = some (.lst [.int c, .int ((d * A + B) % M)]) := upd_same
    have l1 := Int.emod_nonneg (d * A + B) (show M ≠ 0 by omega)
    have l2 := Int.emod_lt_of_pos (d * A + B) hM.1
    refine (atC_ok hs e1).2 ((atC_ok hs e1).2 ⟨_, C, rfl, rfl, _, _, rfl, rfl, .inl ⟨by omega, by omega⟩, .inl ⟨_, rfl, _, M2, rfl, rfl, hM2, ?_⟩⟩)
    refine ⟨_, rfl, _, E, rfl, rfl, hE, .inl ⟨_, rfl, .int n, rfl, _, n, rfl, rfl, hn.1, ?_⟩⟩
    exact k _ c _ (Int.emod_nonneg _ (by omega)) (Int.emod_lt_of_pos _ hn.1) ⟨hc.1, hc.2.1, l1, by omega⟩

end G
set_option Elab.async false
set_option linter.all false
set_option maxRecDepth 100000
namespace G
section
variable {P : D → Prop} {Q : Bool → Prop} {a b i j : Int} {s t : List Nat} {xs ys : List D} {c d : D} {k l : Bool}
def optP {α : Type} (P : α → Prop) : Option α → Prop
  | some a => P a
  | none => False
theorem optP_s {α : Type} {P : α → Prop} {a : α} : optP P (some a) = P a := rfl
theorem q_add_i : dAdd (.int a) (.int b) P = P (.int (a + b)) := id rfl
theorem q_add_s : dAdd (.str s) (.str t) P = (s.length + t.length ≤ lim ∧ P (.str (s ++ t))) := id rfl
theorem q_add_t : dAdd (.tup xs) (.tup ys) P = (xs.length + ys.length ≤ lim ∧ P (.tup (xs ++ ys))) := id rfl
theorem q_add_l : dAdd (.lst xs) (.lst ys) P = (xs.length + ys.length ≤ lim ∧ P (.lst (xs ++ ys))) := id rfl
theorem q_sub : dSub (.int a) (.int b) P = P (.int (a - b)) := id rfl
theorem q_mul_i : dMul (.int a) (.int b) P = ((small a ∨ small b) ∧ P (.int (a * b))) := id rfl
theorem q_mul_s : dMul (.str s) (.int b) P = ((b ≤ 1000000 ∧ s.length ≤ 1000 ∧ s.length * b.toNat ≤ lim ∧ -1000000 ≤ b) ∧ P (.str (srep b s))) := id rfl
theorem q_div : dDiv (.int a) (.int b) P = ((0 < b ∧ b < 1073741824) ∧ P (.int (a / b))) := id rfl
theorem q_mod : dMod (.int a) (.int b) P = (0 < b ∧ P (.int (a % b))) := id rfl
theorem q_neg : dNeg (.int a) P = P (.int (-a)) := id rfl
theorem q_lt : dLt (.int a) (.int b) P = P (.bl (decide (a < b))) := id rfl
theorem q_le : dLe (.int a) (.int b) P = P (.bl (decide (a ≤ b))) := id rfl
theorem q_gt : dGt (.int a) (.int b) P = P (.bl (decide (b < a))) := id rfl
theorem q_ge : dGe (.int a) (.int b) P = P (.bl (decide (b ≤ a))) := id rfl
theorem q_eq_i : dEq (.int a) (.int b) P = P (.bl (a == b)) := propext ⟨fun h => h.2, fun h => ⟨⟨okD_int, okD_int⟩, h⟩⟩
theorem q_ne_i : dNe (.int a) (.int b) P = P (.bl (!(a == b))) := propext ⟨fun h => h.2, fun h => ⟨⟨okD_int, okD_int⟩, h⟩⟩
theorem q_eq_s : dEq (.str s) (.str t) P = P (.bl (s == t)) := propext ⟨fun h => h.2, fun h => ⟨⟨okD_str, okD_str⟩, h⟩⟩
theorem q_ne_s : dNe (.str s) (.str t) P = P (.bl (!(s == t))) := propext ⟨fun h => h.2, fun h => ⟨⟨okD_str, okD_str⟩, h⟩⟩
theorem q_is_bb : dIs (.bl k) (.bl l) P = P (.bl (decide (k = l))) := id rfl
theorem q_isN (h : c ≠ .any) : dIs c .non P = P (.bl (isNon c)) := by cases c <;> first | rfl | exact absurd rfl h
theorem q_is_bn : dIs (.bl k) .non P = P (.bl false) := id rfl
theorem q_is_in : dIs (.int i) .non P = P (.bl false) := id rfl
theorem q_is_sn : dIs (.str s) .non P = P (.bl false) := id rfl
theorem q_is_tn : dIs (.tup xs) .non P = P (.bl false) := id rfl
theorem q_is_nn : dIs .non .non P = P (.bl true) := id rfl
theorem q_isn_bb : dIsNot (.bl k) (.bl l) P = P (.bl (!decide (k = l))) := id rfl
theorem q_isn_bn : dIsNot (.bl k) .non P = P (.bl true) := id rfl
theorem q_isn_in : dIsNot (.int i) .non P = P (.bl true) := id rfl
theorem q_isn_sn : dIsNot (.str s) .non P = P (.bl true) := id rfl
theorem q_isn_tn : dIsNot (.tup xs) .non P = P (.bl true) := id rfl
theorem q_isn_nn : dIsNot .non .non P = P (.bl false) := id rfl
theorem q_it_l : dItem (.lst xs) (.int i) P = optP P (atD xs i) := by
  show (match atD xs i with | some d => P d | none => False) = _
  cases atD xs i <;> rfl
theorem q_it_t : dItem (.tup xs) (.int i) P = optP P (atD xs i) := by
  show (match atD xs i with | some d => P d | none => False) = _
  cases atD xs i <;> rfl
theorem q_it_k : dItem (.kt xs) (.int i) P = optP P (atD xs i) := by
  show (match atD xs i with | some d => P d | none => False) = _
  cases atD xs i <;> rfl
theorem q_it_s : dItem (.str s) (.int i) P = optP (fun c => s.length ≤ lim ∧ P (.str [c])) (atD s i) := by
  show (match atD s i with | some c => s.length ≤ lim ∧ P (.str [c]) | none => False) = _
  cases atD s i <;> rfl
theorem at0 {α : Type} {x : α} {r : List α} : atD (x :: r) 0 = some x := by unfold atD ixD; rw [if_pos (by decide), if_pos (by simp only [List.length_cons]; omega)]; rfl
theorem at1 {α : Type} {x y : α} {r : List α} : atD (x :: y :: r) 1 = some y := by unfold atD ixD; rw [if_pos (by decide), if_pos (by simp only [List.length_cons]; omega)]; rfl
theorem at2 {α : Type} {x y z : α} {r : List α} : atD (x :: y :: z :: r) 2 = some z := by unfold atD ixD; rw [if_pos (by decide), if_pos (by simp only [List.length_cons]; omega)]; rfl
theorem at3 {α : Type} {x y z u : α} {r : List α} : atD (x :: y :: z :: u :: r) 3 = some u := by unfold atD ixD; rw [if_pos (by decide), if_pos (by simp only [List.length_cons]; omega)]; rfl
theorem atm1_1 {α : Type} {x : α} : atD [x] (-1) = some x := rfl
theorem atm1_2 {α : Type} {x y : α} : atD [x, y] (-1) = some y := rfl
theorem atm1_a {α : Type} {x : α} {r : List α} : atD (r ++ [x]) (-1) = some x := atD_last (by simp)
theorem q_len_s : dLen [.str s] P = (s.length ≤ lim ∧ P (.int s.length)) := id rfl
theorem q_len_l : dLen [.lst xs] P = P (.int xs.length) := id rfl
theorem q_len_t : dLen [.tup xs] P = P (.int xs.length) := id rfl
theorem q_isi : dIsi [d, .ty T] P = optP (fun r => P (.bl r)) (isiD d T) := by
  show (match isiD d T with | some r => P (.bl r) | none => False) = _
  cases isiD d T <;> rfl
theorem q_all {bs : List Bool} (h : boolsD xs = some bs) : dAll [.lst xs] P = P (.bl (bs.all id)) := by
  show (match boolsD xs with | some bs => P (.bl (bs.all id)) | none => False) = _
  rw [h]
theorem q_int : dInt [.int i] P = P (.int i) := id rfl
theorem q_str : dStr [.str s] P = P (.str s) := id rfl
theorem ty_int {T : String} : isiD (.int i) T = isiT "int" T := rfl
theorem ty_str {T : String} : isiD (.str s) T = isiT "str" T := rfl
theorem ty_bl {T : String} : isiD (.bl k) T = isiT "bool" T := rfl
theorem ty_lst {T : String} : isiD (.lst xs) T = isiT "list" T := rfl
theorem ty_tup {T : String} : isiD (.tup xs) T = isiT "tuple" T := rfl
theorem ty_kt {T : String} : isiD (.kt xs) T = isiT "tuple" T := rfl
theorem ty_non {T : String} : isiD .non T = isiT "NoneType" T := rfl
theorem isB_bl : isB Q (.bl k) = Q k := id rfl
theorem isI_int {Q : Int → Prop} : isI Q (.int i) = Q i := id rfl
theorem get0 {x : Sl} {r : Env} : getS (x :: r) 0 = x := rfl
theorem seq_s : seqD (.str s) P' = P' (signsD s) := rfl
theorem seq_l : seqD (.lst xs) P' = P' xs := rfl
theorem seq_t : seqD (.tup xs) P' = P' xs := rfl
theorem seq_k : seqD (.kt xs) P' = P' xs := rfl
theorem q_join {ss : List (List Nat)} (h : strsD xs = some ss) : dJoin (.str s) [.lst xs] P = (((ss.map List.length).sum + ss.length * s.length ≤ lim) ∧ P (.str (joinD s ss))) := by
  show (match strsD xs with | some ss => ((ss.map List.length).sum + ss.length * s.length ≤ lim) ∧ P (.str (joinD s ss)) | none => False) = _
  rw [h]
end
end G
namespace G
/-- a loop that keeps I -/
theorem forW_inv {g : GM} {S : SM} {E : DE} (I : Env → Prop) {ds : List D} {env : Env} (h0 : I env) (hs : ∀ d ∈ ds, ∀ env (K : Env → Prop), I env → (∀ e, I e → K e) → g d env fun env' => S { nx := K, ct := K, bk := E.nx, rt := E.rt } env') (hd : ∀ env, I env → E.nx env) : forW g S ds E env :=
  forW_ind (fun ds' env => I env ∧ ∀ d ∈ ds', d ∈ ds) (fun env h => hd env h.1) (fun d ds' env K h hK => hs d (h.2 d List.mem_cons_self) env K h.1 fun e he => hK e ⟨he, fun x hx => h.2 x (List.mem_cons_of_mem _ hx)⟩) ds env ⟨h0, fun _ h => h⟩
theorem strs_of {R : List Nat → Prop} : ∀ {ys : List D}, (∀ y ∈ ys, ∃ s, y = .str s ∧ R s) → ∃ ss : List (List Nat), ys = ss.map D.str ∧ ∀ s ∈ ss, R s
  | [], _ => ⟨[], rfl, fun _ h => by cases h⟩
  | y :: ys, h => by
    obtain ⟨s, rfl, h1⟩ := h y List.mem_cons_self
    obtain ⟨ss, rfl, h2⟩ := strs_of fun z hz => h z (List.mem_cons_of_mem _ hz)
    exact ⟨s :: ss, rfl, fun z hz => by rcases List.mem_cons.mp hz with rfl | hz; exact h1; exact h2 z hz⟩
theorem joinD_nil_sep : ∀ ss : List (List Nat), joinD [] ss = ss.flatten
  | [] => rfl
  | [x] => by simp [joinD]
  | x :: y :: r => by rw [joinD, joinD_nil_sep (y :: r)]; simp
theorem rngD_len {lo : Int} {n : Nat} : (rngD lo n).length = n := by simp [rngD]
theorem mem_rngD {lo : Int} {n : Nat} {d : D} (h : d ∈ rngD lo n) : ∃ i : Nat, i < n ∧ d = .int (lo + i) := by
  obtain ⟨i, hi, rfl⟩ := List.mem_map.mp h
  exact ⟨i, List.mem_range.mp hi, rfl⟩
theorem atD_nat {α : Type} {xs : List α} {i : Nat} (h : i < xs.length) : atD xs (0 + (i : Int)) = some xs[i] := by
  unfold atD ixD
  rw [if_pos (by omega), if_pos (by omega)]
  simp [h]
theorem q_roll {n : Int} {P : D → Prop} (h0 : 0 < n) (h1 : n < 1073741824) (h : ∀ r, 0 ≤ r → r < n → P (.int r)) : dRoll [.cup, .int n] P := ⟨⟨h0, h1⟩, h⟩
theorem q_some {xs : List D} {P : D → Prop} (h0 : 0 < xs.length) (h1 : xs.length < 1000000) (h : ∀ x ∈ xs, P x) : dRoll [.cup, .int xs.length] fun r => dItem (.lst xs) r P := by
  refine q_roll (by omega) (by omega) fun r hr0 hr1 => ?_
  rw [q_it_l]
  unfold atD ixD
  rw [if_pos hr0, if_pos hr1]
  have : r.toNat < xs.length := by omega
  simp [optP, this]
  exact h _ (List.getElem_mem _)
/-- data without lists: what _law_same tells of -/
def smD : Nat → D → Bool
  | _, .non => true
  | _, .bl _ => true
  | _, .int _ => true
  | _, .str _ => true
  | n + 1, .tup ds => decide (ds.length ≤ lim) && ds.all (smD n)
  | _, _ => false
theorem smD_bl {n : Nat} {k : Bool} : smD n (.bl k) = true := by cases n <;> rfl
theorem smD_int {n : Nat} {k : Int} : smD n (.int k) = true := by cases n <;> rfl
theorem smD_str {n : Nat} {k : List Nat} : smD n (.str k) = true := by cases n <;> rfl
theorem smD_non {n : Nat} : smD n .non = true := by cases n <;> rfl
end G
namespace G
theorem small0 : small 0 := by unfold small; omega
theorem small1 : small 1 := by unfold small; omega
theorem smallm1 : small (-1) := by unfold small; omega
/-- a sign that is no piece -/
def nPc : D → Bool
  | .str [c] => !isPc c
  | _ => false
theorem nPc_none : ∀ s : List Nat, eqv (.lst ((s.map fun c => D.str [c]).filter nPc)) (.lst []) = s.all isPc
  | [] => rfl
  | c :: s => by
    rw [List.map_cons, List.all_cons]
    cases e6 : isPc c
    · rw [List.filter_cons_of_pos (by simp [nPc, e6])]; rfl
    · rw [List.filter_cons_of_neg (by simp [nPc, e6])]; exact nPc_none s
theorem okD_strs {l : List D} (hl : ∀ d ∈ l, ∃ c, d = .str c) : okD deep (.lst l) = true := by
  unfold deep okD
  exact List.all_eq_true.mpr fun x hx => by obtain ⟨c, rfl⟩ := hl x hx; exact okD_str
end G
namespace G
theorem q_sl_s {s : List Nat} {lo hi : Option Int} {P : D → Prop} : dSl (.str s) lo hi P = (s.length ≤ lim ∧ P (.str (cutD s lo hi))) := id rfl
theorem q_sl_t {s : List D} {lo hi : Option Int} {P : D → Prop} : dSl (.tup s) lo hi P = P (.tup (cutD s lo hi)) := id rfl
theorem q_sl_l {s : List D} {lo hi : Option Int} {P : D → Prop} : dSl (.lst s) lo hi P = P (.lst (cutD s lo hi)) := id rfl
theorem memD_slr {c : Nat} : memD (D.str [c]) [D.str [115], D.str [108], D.str [114]] = isPc c := by
  rw [Bool.eq_iff_iff]; simp [memD, eqv, isPc]; omega
theorem cut2 {α : Type} {a b : α} {r : List α} : cutD (a :: b :: r) none (some 2) = [a, b] := by
  simp [cutD, plD]
end G
namespace G
theorem put0 {a v : D} {r : List D} {P : D → Prop} : putD (.lst (a :: r)) (.int 0) v P = P (.lst (v :: r)) := by
  simp only [putD]; rw [show ixD (a :: r).length 0 = some 0 by unfold ixD; rw [if_pos (by decide), if_pos (by simp only [List.length_cons]; omega)]; rfl]; rfl
theorem put1 {a b v : D} {r : List D} {P : D → Prop} : putD (.lst (a :: b :: r)) (.int 1) v P = P (.lst (a :: v :: r)) := by
  simp only [putD]; rw [show ixD (a :: b :: r).length 1 = some 1 by unfold ixD; rw [if_pos (by decide), if_pos (by simp only [List.length_cons]; omega)]; rfl]; rfl
theorem put2 {a b c v : D} {r : List D} {P : D → Prop} : putD (.lst (a :: b :: c :: r)) (.int 2) v P = P (.lst (a :: b :: v :: r)) := by
  simp only [putD]; rw [show ixD (a :: b :: c :: r).length 2 = some 2 by unfold ixD; rw [if_pos (by decide), if_pos (by simp only [List.length_cons]; omega)]; rfl]; rfl
theorem put3 {a b c d v : D} {r : List D} {P : D → Prop} : putD (.lst (a :: b :: c :: d :: r)) (.int 3) v P = P (.lst (a :: b :: c :: v :: r)) := by
  simp only [putD]; rw [show ixD (a :: b :: c :: d :: r).length 3 = some 3 by unfold ixD; rw [if_pos (by decide), if_pos (by simp only [List.length_cons]; omega)]; rfl]; rfl
end G
set_option Elab.async false
set_option linter.all false
set_option maxRecDepth 100000
set_option maxHeartbeats 1000000
namespace G
/-! ### the moves of the plane -/
def comp (p m : Pl) : Pl := ⟨p.r + m.r * dx p.w + m.u * dx ((p.w + 1) % 4), p.u + m.r * dy p.w + m.u * dy ((p.w + 1) % 4), (p.w + m.w) % 4⟩
theorem comp_ok (p m : Pl) : (comp p m).ok := ⟨Int.emod_nonneg _ (by omega), by have := Int.emod_lt_of_pos (p.w + m.w) (show (0 : Int) < 4 by omega); simp only [comp]; omega⟩
theorem Pl.ext {p q : Pl} (h1 : p.r = q.r) (h2 : p.u = q.u) (h3 : p.w = q.w) : p = q := by cases p; cases q; simp only at h1 h2 h3; subst h1 h2 h3; rfl
theorem comp_o0 {p : Pl} (h : p.ok) : comp p o0 = p := by
  obtain ⟨h1, h2⟩ := h
  refine Pl.ext ?_ ?_ ?_ <;> simp only [comp, o0] <;> omega
theorem o0_comp {p : Pl} (h : p.ok) : comp o0 p = p := by
  obtain ⟨h1, h2⟩ := h
  refine Pl.ext ?_ ?_ ?_ <;> simp only [comp, o0, dx, dy] <;> simp <;> omega
theorem nxt_comp {p q : Pl} (hp : p.ok) (hq : q.ok) (c : Nat) : nxt (comp p q) c = comp p (nxt q c) := by
  have h1 := Pl.way hp
  have h2 := Pl.way hq
  obtain ⟨r, u, w⟩ := p
  obtain ⟨x, y, z⟩ := q
  simp only at h1 h2
  by_cases e1 : c = 115
  · rcases h1 with rfl | rfl | rfl | rfl <;> rcases h2 with rfl | rfl | rfl | rfl <;> refine Pl.ext ?_ ?_ ?_ <;> simp [comp, nxt, e1, dx, dy] <;> omega
  · by_cases e2 : c = 108
    · rcases h1 with rfl | rfl | rfl | rfl <;> rcases h2 with rfl | rfl | rfl | rfl <;> refine Pl.ext ?_ ?_ ?_ <;> simp [comp, nxt, e2, dx, dy] <;> omega
    · rcases h1 with rfl | rfl | rfl | rfl <;> rcases h2 with rfl | rfl | rfl | rfl <;> refine Pl.ext ?_ ?_ ?_ <;> simp [comp, nxt, e1, e2, dx, dy] <;> omega
theorem endFrom_comp {p : Pl} (hp : p.ok) : ∀ {q : Pl} (hq : q.ok) (s : List Nat), endFrom (comp p q) s = comp p (endFrom q s)
  | q, hq, [] => rfl
  | q, hq, c :: s => by
    show endFrom (nxt (comp p q) c) s = comp p (endFrom (nxt q c) s)
    rw [nxt_comp hp hq, endFrom_comp hp (nxt_ok hq c)]
theorem o0_okk : o0.ok := ⟨by decide, by decide⟩
theorem endFrom_eq {p : Pl} (hp : p.ok) (s : List Nat) : endFrom p s = comp p (endFrom o0 s) := by
  rw [← endFrom_comp hp o0_okk, comp_o0 hp]
theorem endFrom_app (p : Pl) (s t : List Nat) : endFrom p (s ++ t) = endFrom (endFrom p s) t := List.foldl_append
theorem comp_assoc {a b : Pl} (ha : a.ok) (hb : b.ok) (c : Pl) : comp (comp a b) c = comp a (comp b c) := by
  have h1 := Pl.way ha
  have h2 := Pl.way hb
  obtain ⟨r, u, w⟩ := a
  obtain ⟨x, y, z⟩ := b
  simp only at h1 h2
  rcases h1 with rfl | rfl | rfl | rfl <;> rcases h2 with rfl | rfl | rfl | rfl <;> refine Pl.ext ?_ ?_ ?_ <;> simp [comp, dx, dy] <;> omega
/-- a move so many times -/
def pw (m : Pl) : Nat → Pl
  | 0 => o0
  | n + 1 => comp (pw m n) m
theorem pw_ok (m : Pl) : ∀ n, (pw m n).ok
  | 0 => o0_okk
  | _ + 1 => comp_ok _ _
theorem pw_one {m : Pl} (h : m.ok) : pw m 1 = m := o0_comp h
theorem pw_add {m : Pl} (h : m.ok) (a : Nat) : ∀ b, pw m (a + b) = comp (pw m a) (pw m b)
  | 0 => (comp_o0 (pw_ok m a)).symm
  | b + 1 => by
    show comp (pw m (a + b)) m = comp (pw m a) (comp (pw m b) m)
    rw [pw_add h a b, comp_assoc (pw_ok m a) (pw_ok m b)]
theorem pw0 {m : Pl} (h : m.w = 0) : ∀ n : Nat, pw m n = ⟨m.r * n, m.u * n, 0⟩
  | 0 => by simp [pw, o0]
  | n + 1 => by
    rw [pw, pw0 h n]
    refine Pl.ext ?_ ?_ ?_ <;> simp [comp, dx, dy, h, Int.mul_add]
theorem pw4 {m : Pl} (h : m.ok) (h0 : m.w ≠ 0) : pw m 4 = o0 := by
  have h1 := Pl.way h
  obtain ⟨r, u, w⟩ := m
  simp only at h0 h1
  rcases h1 with rfl | rfl | rfl | rfl
  · exact absurd rfl h0
  all_goals (refine Pl.ext ?_ ?_ ?_ <;> simp [pw, comp, o0, dx, dy] <;> omega)
theorem pw_mod {m : Pl} (h : m.ok) (h0 : m.w ≠ 0) : ∀ n : Nat, pw m n = pw m (n % 4) := by
  intro n
  have key : ∀ k, pw m (4 * k) = o0 := by
    intro k
    induction k with
    | zero => rfl
    | succ k ih => rw [show 4 * (k + 1) = 4 * k + 4 by omega, pw_add h, ih, pw4 h h0]; rfl
  conv => lhs; rw [show n = 4 * (n / 4) + n % 4 by omega]
  rw [pw_add h, key, o0_comp (pw_ok m _)]
theorem endFrom_rep {s : List Nat} : ∀ n : Nat, endFrom o0 (List.replicate n s).flatten = pw (endFrom o0 s) n
  | 0 => rfl
  | n + 1 => by
    rw [List.replicate_succ', List.flatten_append, endFrom_app, endFrom_rep n, endFrom_eq (pw_ok _ _)]
    simp only [List.flatten_cons, List.flatten_nil, List.append_nil]
    rfl
/-- how many laps close -/
def lapsD (m : Pl) : D := if m.w = 0 then (if m = o0 then .int 1 else .non) else if m.w = 2 then .int 2 else .int 4
theorem pw2 {m : Pl} (h : m.w = 2) : pw m 2 = o0 := by
  obtain ⟨r, u, w⟩ := m
  simp only at h
  subst h
  refine Pl.ext ?_ ?_ ?_ <;> simp [pw, comp, o0, dx, dy] <;> omega
theorem pw_w {m : Pl} (h : m.ok) : ∀ n : Nat, (pw m n).w = (m.w * n) % 4
  | 0 => by simp [pw, o0]
  | n + 1 => by
    show ((pw m n).w + m.w) % 4 = _
    rw [pw_w h n, Int.natCast_succ, Int.mul_add, Int.mul_one]
    omega
/-- turns: a quarter to the left, to the right -/
theorem end_turn (p : Pl) (hp : p.ok) : ∀ s : List Nat, s.all isPc = true → (endFrom p s).w = (p.w + ((s.count 108 : Nat) : Int) - ((s.count 114 : Nat) : Int)) % 4
  | [], _ => by obtain ⟨h1, h2⟩ := hp; simp [endFrom]; omega
  | c :: s, hs => by
    rw [List.all_cons, Bool.and_eq_true] at hs
    show (endFrom (nxt p c) s).w = _
    rw [end_turn (nxt p c) (nxt_ok hp c) s hs.2]
    have hc : c = 115 ∨ c = 108 ∨ c = 114 := by simpa [isPc] using hs.1
    rcases hc with rfl | rfl | rfl <;> simp [nxt, List.count_cons] <;> omega
/-- the place behind the first pieces -/
theorem places_get (p : Pl) : ∀ (s : List Nat) (k : Nat), k ≤ s.length → (placesFrom p s)[k]? = some (endFrom p (s.take k))
  | [], k, h => by have : k = 0 := Nat.le_zero.mp h; subst this; rfl
  | c :: s, 0, h => rfl
  | c :: s, k + 1, h => by
    show (placesFrom (nxt p c) s)[k]? = some (endFrom (nxt p c) (s.take k))
    exact places_get (nxt p c) s k (by simpa using h)
end G
namespace G
/-! ### places as data -/
theorem okD_Pl (p : Pl) : okD deep p.d = true := by simp [Pl.d, okD, deep]
theorem eqv_Pl (p q : Pl) : eqv p.d q.d = decide (p = q) := by
  obtain ⟨a, b, c⟩ := p
  obtain ⟨d, e, f⟩ := q
  rw [Bool.eq_iff_iff]
  simp [Pl.d, eqv, eqvL]
theorem isW_len {s : List Nat} (h : isW s = true) : s.length ≤ 60 := by unfold isW at h; rw [Bool.and_eq_true] at h; exact of_decide_eq_true h.1
theorem isW_all {s : List Nat} (h : isW s = true) : s.all isPc = true := by unfold isW at h; rw [Bool.and_eq_true] at h; exact h.2
theorem isW_mk {s : List Nat} (h : s.length ≤ 60) (h2 : s.all isPc = true) : isW s = true := by unfold isW; rw [h2, decide_eq_true h]; rfl
def nearP (p : Pl) : Prop := p.ok ∧ (-100 ≤ p.r ∧ p.r ≤ 100) ∧ (-100 ≤ p.u ∧ p.u ≤ 100)
def Pl.k (p : Pl) : D := .kt [.int p.r, .int p.u, .int p.w]
def isP (p : Pl) (d : D) : Prop := d = p.d ∨ d = p.k
def tlF (q : Pl) : List Nat → List Pl
  | [] => []
  | c :: r => placesFrom (nxt q c) r
theorem at_way {p : Pl} {d : D} (hd : isP p d) {Q : D → Prop} : dItem d (.int 2) Q = Q (.int p.w) := by
  rcases hd with rfl | rfl <;> simp only [Pl.d, Pl.k, fnM, sSeq, sRet, sSet, sSetO, sAsg, sIf, sNil, sFrz, frzS, sExpr, sFor, sAppend, sPar, sParFG, sParGF, sParFF, sPut, sAug, sExt, sBreak, sCont, sStuck,
 eCall, aCons, aNil, eVar, eVarB, eC, eBin, eUn, eAnd, eOr, eNot, eIf, eChain, tVal, tAnd, tOr, tNot, tTrue, eTup, eLst, eMeth, hasT, eSl, oNone, oSome, eRev, eLC, wipeE,
 startE, getS, setS, iSeq, iRng1m, iRng2m, ret, ask, stuck, isNon, gN, gTn, gsCons, gsNil, q_sl_s, q_sl_t, q_sl_l, dTuple, dList,
 put0, put1, put2, put3, optP_s, q_add_i, q_add_s, q_add_t, q_add_l, q_sub, q_mul_i, q_mul_s, q_div, q_mod, q_neg, q_lt, q_le, q_gt, q_ge, q_eq_i, q_ne_i, q_eq_s, q_ne_s, q_is_bb, q_is_bn, q_is_in, q_is_sn, q_is_tn, q_is_nn, q_isn_bb, q_isn_bn, q_isn_in, q_isn_sn, q_isn_tn, q_isn_nn,
 q_it_l, q_it_t, q_it_k, q_it_s, at0, at1, at2, at3, atm1_1, atm1_2, atm1_a, q_len_s, q_len_l, q_len_t, q_isi, q_int, q_str, ty_int, ty_str, ty_bl, ty_lst, ty_tup, ty_kt, ty_non, isiT, isB_bl, isI_int, seq_s, seq_l, seq_t, seq_k, tyD,
 List.map_cons, List.map_nil, List.length_cons, List.length_nil, List.cons_append, List.nil_append, List.append_nil, List.replicate_zero, List.replicate_succ, Nat.reduceAdd, Nat.reduceSub, Nat.reduceEqDiff, Nat.reduceLeDiff, Int.reduceAdd, Int.reduceSub, Int.reduceMul, Int.reduceMod, Int.reduceNeg, Int.reduceLT, Int.reduceLE, Int.reduceBEq, decide_true, decide_false, Bool.not_true, Bool.not_false, lim, true_and, and_true, Nat.zero_add]
theorem at_r {p : Pl} {d : D} (hd : isP p d) {Q : D → Prop} : dItem d (.int 0) Q = Q (.int p.r) := by
  rcases hd with rfl | rfl <;> simp only [Pl.d, Pl.k, fnM, sSeq, sRet, sSet, sSetO, sAsg, sIf, sNil, sFrz, frzS, sExpr, sFor, sAppend, sPar, sParFG, sParGF, sParFF, sPut, sAug, sExt, sBreak, sCont, sStuck,
 eCall, aCons, aNil, eVar, eVarB, eC, eBin, eUn, eAnd, eOr, eNot, eIf, eChain, tVal, tAnd, tOr, tNot, tTrue, eTup, eLst, eMeth, hasT, eSl, oNone, oSome, eRev, eLC, wipeE,
 startE, getS, setS, iSeq, iRng1m, iRng2m, ret, ask, stuck, isNon, gN, gTn, gsCons, gsNil, q_sl_s, q_sl_t, q_sl_l, dTuple, dList,
 put0, put1, put2, put3, optP_s, q_add_i, q_add_s, q_add_t, q_add_l, q_sub, q_mul_i, q_mul_s, q_div, q_mod, q_neg, q_lt, q_le, q_gt, q_ge, q_eq_i, q_ne_i, q_eq_s, q_ne_s, q_is_bb, q_is_bn, q_is_in, q_is_sn, q_is_tn, q_is_nn, q_isn_bb, q_isn_bn, q_isn_in, q_isn_sn, q_isn_tn, q_isn_nn,
 q_it_l, q_it_t, q_it_k, q_it_s, at0, at1, at2, at3, atm1_1, atm1_2, atm1_a, q_len_s, q_len_l, q_len_t, q_isi, q_int, q_str, ty_int, ty_str, ty_bl, ty_lst, ty_tup, ty_kt, ty_non, isiT, isB_bl, isI_int, seq_s, seq_l, seq_t, seq_k, tyD,
 List.map_cons, List.map_nil, List.length_cons, List.length_nil, List.cons_append, List.nil_append, List.append_nil, List.replicate_zero, List.replicate_succ, Nat.reduceAdd, Nat.reduceSub, Nat.reduceEqDiff, Nat.reduceLeDiff, Int.reduceAdd, Int.reduceSub, Int.reduceMul, Int.reduceMod, Int.reduceNeg, Int.reduceLT, Int.reduceLE, Int.reduceBEq, decide_true, decide_false, Bool.not_true, Bool.not_false, lim, true_and, and_true, Nat.zero_add]
theorem at_u {p : Pl} {d : D} (hd : isP p d) {Q : D → Prop} : dItem d (.int 1) Q = Q (.int p.u) := by
  rcases hd with rfl | rfl <;> simp only [Pl.d, Pl.k, fnM, sSeq, sRet, sSet, sSetO, sAsg, sIf, sNil, sFrz, frzS, sExpr, sFor, sAppend, sPar, sParFG, sParGF, sParFF, sPut, sAug, sExt, sBreak, sCont, sStuck,
 eCall, aCons, aNil, eVar, eVarB, eC, eBin, eUn, eAnd, eOr, eNot, eIf, eChain, tVal, tAnd, tOr, tNot, tTrue, eTup, eLst, eMeth, hasT, eSl, oNone, oSome, eRev, eLC, wipeE,
 startE, getS, setS, iSeq, iRng1m, iRng2m, ret, ask, stuck, isNon, gN, gTn, gsCons, gsNil, q_sl_s, q_sl_t, q_sl_l, dTuple, dList,
 put0, put1, put2, put3, optP_s, q_add_i, q_add_s, q_add_t, q_add_l, q_sub, q_mul_i, q_mul_s, q_div, q_mod, q_neg, q_lt, q_le, q_gt, q_ge, q_eq_i, q_ne_i, q_eq_s, q_ne_s, q_is_bb, q_is_bn, q_is_in, q_is_sn, q_is_tn, q_is_nn, q_isn_bb, q_isn_bn, q_isn_in, q_isn_sn, q_isn_tn, q_isn_nn,
 q_it_l, q_it_t, q_it_k, q_it_s, at0, at1, at2, at3, atm1_1, atm1_2, atm1_a, q_len_s, q_len_l, q_len_t, q_isi, q_int, q_str, ty_int, ty_str, ty_bl, ty_lst, ty_tup, ty_kt, ty_non, isiT, isB_bl, isI_int, seq_s, seq_l, seq_t, seq_k, tyD,
 List.map_cons, List.map_nil, List.length_cons, List.length_nil, List.cons_append, List.nil_append, List.append_nil, List.replicate_zero, List.replicate_succ, Nat.reduceAdd, Nat.reduceSub, Nat.reduceEqDiff, Nat.reduceLeDiff, Int.reduceAdd, Int.reduceSub, Int.reduceMul, Int.reduceMod, Int.reduceNeg, Int.reduceLT, Int.reduceLE, Int.reduceBEq, decide_true, decide_false, Bool.not_true, Bool.not_false, lim, true_and, and_true, Nat.zero_add]
theorem eqv_P {p q : Pl} {d e : D} (hd : isP p d) (he : isP q e) {Q : D → Prop} : dEq d e Q = Q (.bl (decide (p = q))) := by
  have h1 : eqv d e = decide (p = q) := by
    rw [← eqv_Pl]
    rcases hd with rfl | rfl <;> rcases he with rfl | rfl <;> rfl
  have h2 : ∀ {p : Pl} {d : D}, isP p d → okD deep d = true := by
    rintro p d (rfl | rfl) <;> simp [Pl.d, Pl.k, okD, deep]
  refine propext ⟨fun h => ?_, fun h => ⟨⟨h2 hd, h2 he⟩, ?_⟩⟩
  · have := h.2; rw [← h1]; exact this
  · rw [← h1] at h; exact h
theorem pw_step {m : Pl} (n : Nat) : pw m (n + 1) = comp (pw m n) m := rfl
def driftD (m : Pl) : D := if isNon (lapsD m) = true then .tup [.int m.r, .int m.u] else .non
theorem laps_isN {m : Pl} {Q : D → Prop} : dIs (lapsD m) .non Q = Q (.bl (isNon (lapsD m))) := q_isN (by unfold lapsD; split <;> (try split) <;> intro z <;> cases z)
theorem cutP {p : Pl} : cutD [D.int p.r, .int p.u, .int p.w] none (some 2) = [.int p.r, .int p.u] := cut2
theorem cut_take {α : Type} {s : List α} {k : Int} (h0 : 0 ≤ k) (h1 : k ≤ s.length) : cutD s none (some k) = s.take k.toNat := by
  simp only [cutD, plD]
  have : ¬ k < 0 := by omega
  simp [this]
theorem laps_first {m : Pl} (h : m.ok) {k : Nat} (h1 : 1 ≤ k) (h4 : k ≤ 4) (hk : pw m k = o0) (hj : ∀ j, 1 ≤ j → j < k → pw m j ≠ o0) : lapsD m = .int k := by
  have hw := pw_w h k
  rw [hk] at hw
  have hw0 : (m.w * (k : Int)) % 4 = 0 := hw.symm
  have p1 := pw_one h
  unfold lapsD
  by_cases e1 : m.w = 0
  · rw [if_pos e1]
    have e2 := pw0 e1 k
    rw [hk] at e2
    have e3 : (0 : Int) = m.r * k := congrArg Pl.r e2
    have e4 : (0 : Int) = m.u * k := congrArg Pl.u e2
    have hk0 : (k : Int) ≠ 0 := by omega
    have r0 : m.r = 0 := (Int.mul_eq_zero.mp e3.symm).resolve_right hk0
    have u0 : m.u = 0 := (Int.mul_eq_zero.mp e4.symm).resolve_right hk0
    have e5 : m = o0 := Pl.ext r0 u0 e1
    rw [if_pos e5]
    by_cases e6 : k = 1
    · subst e6; rfl
    · exact absurd (p1.trans e5) (hj 1 (by omega) (by omega))
  · rw [if_neg e1]
    have ne : m ≠ o0 := fun z => e1 (congrArg Pl.w z)
    by_cases e2 : m.w = 2
    · rw [if_pos e2]
      by_cases e6 : k = 1
      · subst e6; exact absurd (p1.symm.trans hk) ne
      · by_cases e7 : k = 2
        · subst e7; rfl
        · exact absurd (pw2 e2) (hj 2 (by omega) (by omega))
    · rw [if_neg e2]
      have hm := Pl.way h
      have e8 : k = 4 := by
        rcases hm with e | e | e | e
        · exact absurd e e1
        · rw [e] at hw0; omega
        · exact absurd e e2
        · rw [e] at hw0; omega
      subst e8; rfl
theorem laps_none {m : Pl} (h : m.ok) (hj : ∀ j, 1 ≤ j → j ≤ 4 → pw m j ≠ o0) : lapsD m = .non := by
  have e1 : m.w = 0 := by
    by_cases e : m.w = 0
    · exact e
    · exact absurd (pw4 h e) (hj 4 (by omega) (by omega))
  unfold lapsD
  rw [if_pos e1, if_neg]
  intro z
  exact hj 1 (by omega) (by omega) ((pw_one h).trans z)
theorem take_rep {s : List Nat} (h0 : s ≠ []) : ∀ (k n : Nat), n ≤ k * s.length → (List.replicate k s).flatten.take n = (List.replicate (n / s.length) s).flatten ++ s.take (n % s.length)
  | 0, n, h => by have : n = 0 := by omega
                  subst this; simp
  | k + 1, n, h => by
    have hp : 1 ≤ s.length := List.length_pos_iff.mpr h0
    rw [List.replicate_succ, List.flatten_cons, List.take_append]
    by_cases e : n < s.length
    · rw [Nat.div_eq_of_lt e, Nat.mod_eq_of_lt e, show n - s.length = 0 by omega]
      simp
    · have e1 : n / s.length = (n - s.length) / s.length + 1 := by
        conv => lhs; rw [show n = (n - s.length) + s.length by omega]
        rw [Nat.add_div_right _ (by omega)]
      have e2 : n % s.length = (n - s.length) % s.length := by
        conv => lhs; rw [show n = (n - s.length) + s.length by omega]
        rw [Nat.add_mod_right]
      rw [take_rep h0 k (n - s.length) (by rw [Nat.succ_mul] at h; omega), e1, e2, List.replicate_succ, List.flatten_cons, List.append_assoc, List.take_of_length_le (by omega)]
theorem end_take {p : Pl} (hp : p.ok) {s : List Nat} (h0 : s ≠ []) {k n : Nat} (h : n ≤ k * s.length) : endFrom p ((List.replicate k s).flatten.take n) = endFrom (comp p (pw (endFrom o0 s) (n / s.length))) (s.take (n % s.length)) := by
  rw [take_rep h0 k n h, endFrom_app, endFrom_eq hp, endFrom_rep]
/-- the drift of four laps -/
theorem four {p E : Pl} (hp : p.ok) (hE : E.ok) (n : Nat) : (comp p (pw E (n + 4))).r - (comp p (pw E n)).r = (comp ⟨0, 0, p.w⟩ (pw E 4)).r ∧ (comp p (pw E (n + 4))).u - (comp p (pw E n)).u = (comp ⟨0, 0, p.w⟩ (pw E 4)).u ∧ (comp p (pw E (n + 4))).w = (comp p (pw E n)).w := by
  rw [pw_add hE n 4, ← comp_assoc hp (pw_ok _ _)]
  by_cases e : E.w = 0
  · have hw := Pl.way hp
    rw [pw0 e, pw0 e]
    obtain ⟨r, u, w⟩ := p
    simp only at hw
    rcases hw with rfl | rfl | rfl | rfl <;> simp [comp, dx, dy] <;> omega
  · rw [pw4 hE e, comp_o0 (comp_ok _ _)]
    simp [comp, o0]
/-- a row of places, told -/
theorem smD_Pl {n : Nat} (p : Pl) : smD (n + 1) p.d = true := by
  unfold Pl.d smD
  simp [smD_int, lim]
theorem atD_natp {α : Type} {xs : List α} {i : Nat} (h : i < xs.length) : atD xs (i : Int) = some xs[i] := by
  have := atD_nat h
  rwa [Int.zero_add] at this
theorem at_places {p : Pl} {t : List Nat} {n : Nat} (h : n ≤ t.length) : atD ((placesFrom p t).map Pl.d) (n : Int) = some (endFrom p (t.take n)).d := by
  have hl : n < ((placesFrom p t).map Pl.d).length := by rw [List.length_map, places_len]; omega
  rw [atD_natp hl]
  have := places_get p t n h
  rw [List.getElem_map]
  rw [List.getElem?_eq_some_iff] at this
  obtain ⟨_, e⟩ := this
  rw [e]
theorem q_pow {a b : Int} {P : D → Prop} : dPow (.int a) (.int b) P = ((0 ≤ b ∧ b ≤ 1000000 ∧ a.natAbs < 2 ^ 64) ∧ P (.int (a ^ b.toNat))) := rfl
theorem srep_all {n : Int} {s : List Nat} (h : s.all isPc = true) : (srep n s).all isPc = true := by
  unfold srep
  rw [List.all_flatten]
  exact List.all_eq_true.mpr fun x hx => by rw [(List.mem_replicate.mp hx).2]; exact h
theorem srep_len {n : Int} {s : List Nat} : (srep n s).length = n.toNat * s.length := by
  unfold srep
  simp [List.length_flatten, List.map_replicate, List.sum_replicate_nat]
theorem end_srep {p : Pl} (hp : p.ok) {s : List Nat} {n : Int} : endFrom p (srep n s) = comp p (pw (endFrom o0 s) n.toNat) := by
  rw [endFrom_eq hp]; unfold srep; rw [endFrom_rep]
theorem q_ne_P {p q : Pl} {P : D → Prop} (e : p = q) (h : P (.bl false)) : dNe p.d q.d P := by
  subst e
  have : eqv p.d p.d = true := by simp [Pl.d, eqv, eqvL]
  refine ⟨⟨okD_Pl p, okD_Pl p⟩, ?_⟩
  rw [this]
  exact h
theorem take_all {s : List Nat} {n : Nat} (h : s.all isPc = true) : (s.take n).all isPc = true := List.all_eq_true.mpr fun x hx => List.all_eq_true.mp h x (List.mem_of_mem_take hx)
theorem dDiv_ok {a b : Int} {P : D → Prop} (h1 : 0 < b) (h2 : b < 1073741824) (h : P (.int (a / b))) : dDiv (.int a) (.int b) P := ⟨⟨h1, h2⟩, h⟩
theorem it_d0 {p : Pl} {Q : D → Prop} : dItem p.d (.int 0) Q = Q (.int p.r) := at_r (.inl rfl)
theorem it_d1 {p : Pl} {Q : D → Prop} : dItem p.d (.int 1) Q = Q (.int p.u) := at_u (.inl rfl)
theorem it_d2 {p : Pl} {Q : D → Prop} : dItem p.d (.int 2) Q = Q (.int p.w) := at_way (.inl rfl)
end G
set_option Elab.async false
set_option linter.all false
set_option maxRecDepth 100000
namespace G
/-! ### turns, mirrors, boxes, spots -/
def xq (q x y : Int) : Int := if q = 0 then x else if q = 1 then -y else if q = 2 then -x else y
def yq (q x y : Int) : Int := if q = 0 then y else if q = 1 then x else if q = 2 then -y else -x
def trn (q : Int) (p : Pl) : Pl := ⟨xq q p.r p.u, yq q p.r p.u, (p.w + q) % 4⟩
theorem four_q {q : Int} (h0 : 0 ≤ q) (h1 : q < 4) : q = 0 ∨ q = 1 ∨ q = 2 ∨ q = 3 := by omega
theorem trn_comp {q : Int} (h0 : 0 ≤ q) (h1 : q < 4) (p : Pl) : trn q p = comp ⟨0, 0, q⟩ p := by
  rcases four_q h0 h1 with rfl | rfl | rfl | rfl <;> refine Pl.ext ?_ ?_ ?_ <;> simp [trn, comp, xq, yq, dx, dy] <;> omega
theorem trn_ok (q : Int) (p : Pl) : (trn q p).ok := ⟨Int.emod_nonneg _ (by omega), by show (p.w + q) % 4 ≤ 3; have := Int.emod_lt_of_pos (p.w + q) (show (0 : Int) < 4 by omega); omega⟩
theorem qt_ok {q : Int} (h0 : 0 ≤ q) (h1 : q < 4) : (⟨0, 0, q⟩ : Pl).ok := ⟨h0, by show q ≤ 3; omega⟩
theorem places_comp {p : Pl} (hp : p.ok) : ∀ {q : Pl} (hq : q.ok) (s : List Nat), placesFrom (comp p q) s = (placesFrom q s).map (comp p)
  | _, _, [] => rfl
  | q, hq, c :: r => by
    show comp p q :: placesFrom (nxt (comp p q) c) r = comp p q :: (placesFrom (nxt q c) r).map (comp p)
    rw [nxt_comp hp hq, places_comp hp (nxt_ok hq c)]
theorem places_trn {q : Int} (h0 : 0 ≤ q) (h1 : q < 4) {p : Pl} (hp : p.ok) (s : List Nat) : placesFrom (trn q p) s = (placesFrom p s).map (trn q) := by
  rw [trn_comp h0 h1, places_comp (qt_ok h0 h1) hp]
  exact List.map_congr_left fun x _ => (trn_comp h0 h1 x).symm
theorem end_trn {q : Int} (h0 : 0 ≤ q) (h1 : q < 4) {p : Pl} (hp : p.ok) (s : List Nat) : endFrom (trn q p) s = trn q (endFrom p s) := by
  rw [trn_comp h0 h1, endFrom_comp (qt_ok h0 h1) hp, trn_comp h0 h1]
theorem trn_back {q : Int} (h0 : 0 ≤ q) (h1 : q < 4) {p : Pl} (hp : p.ok) : trn ((4 - q) % 4) (trn q p) = p := by
  have hw := Pl.way hp
  obtain ⟨r, u, w⟩ := p
  rcases four_q h0 h1 with rfl | rfl | rfl | rfl <;> refine Pl.ext ?_ ?_ ?_ <;> simp [trn, xq, yq] at hw ⊢ <;> omega
/-- where a word must begin to end at e -/
def startD (e m : Pl) : Pl := ⟨e.r - xq ((e.w - m.w) % 4) m.r m.u, e.u - yq ((e.w - m.w) % 4) m.r m.u, (e.w - m.w) % 4⟩
theorem start_trn {q : Int} (h0 : 0 ≤ q) (h1 : q < 4) {e m : Pl} : startD (trn q e) m = trn q (startD e m) := by
  have t0 := Int.emod_nonneg (e.w - m.w) (show (4 : Int) ≠ 0 by omega)
  have t1 := Int.emod_lt_of_pos (e.w - m.w) (show (0 : Int) < 4 by omega)
  have t2 : ((e.w + q) % 4 - m.w) % 4 = ((e.w - m.w) % 4 + q) % 4 := by omega
  unfold startD trn
  simp only [t2]
  generalize (e.w - m.w) % 4 = t at t0 t1
  rcases four_q h0 h1 with rfl | rfl | rfl | rfl <;> rcases four_q t0 t1 with rfl | rfl | rfl | rfl <;> refine Pl.ext ?_ ?_ ?_ <;> simp [xq, yq] <;> omega
/-- the mirror -/
def mir (p : Pl) : Pl := ⟨p.r, -p.u, (4 - p.w) % 4⟩
def sw (c : Nat) : Nat := if c = 115 then 115 else if c = 108 then 114 else 108
theorem mir_ok (p : Pl) : (mir p).ok := ⟨Int.emod_nonneg _ (by omega), by show (4 - p.w) % 4 ≤ 3; have := Int.emod_lt_of_pos (4 - p.w) (show (0 : Int) < 4 by omega); omega⟩
theorem isPc_or {c : Nat} (h : isPc c = true) : c = 115 ∨ c = 108 ∨ c = 114 := by simpa [isPc] using h
theorem sw_pc (c : Nat) : isPc (sw c) = true := by unfold sw; split <;> (try split) <;> decide
theorem nxt_mir {p : Pl} (hp : p.ok) {c : Nat} (hc : isPc c = true) : nxt (mir p) (sw c) = mir (nxt p c) := by
  have hw := Pl.way hp
  obtain ⟨r, u, w⟩ := p
  simp only at hw
  rcases hw with rfl | rfl | rfl | rfl <;> rcases isPc_or hc with rfl | rfl | rfl <;> refine Pl.ext ?_ ?_ ?_ <;> simp [nxt, mir, sw, dx, dy] <;> omega
theorem places_mir : ∀ {p : Pl} (hp : p.ok) (s : List Nat), s.all isPc = true → placesFrom (mir p) (s.map sw) = (placesFrom p s).map mir
  | _, _, [], _ => rfl
  | p, hp, c :: r, h => by
    rw [List.all_cons, Bool.and_eq_true] at h
    show mir p :: placesFrom (nxt (mir p) (sw c)) (r.map sw) = mir p :: (placesFrom (nxt p c) r).map mir
    rw [nxt_mir hp h.1, places_mir (nxt_ok hp c) r h.2]
theorem sw_all (s : List Nat) : (s.map sw).all isPc = true := by
  rw [List.all_map]; exact List.all_eq_true.mpr fun x _ => sw_pc x
/-! least and greatest -/
theorem lmin_eq {ns : List Int} {m : Int} (h : m ∈ ns) (k : ∀ y ∈ ns, m ≤ y) : lmin ns = m := Int.le_antisymm (lmin_le m h) (k _ (lmin_mem (List.ne_nil_of_mem h)))
theorem lmax_eq {ns : List Int} {m : Int} (h : m ∈ ns) (k : ∀ y ∈ ns, y ≤ m) : lmax ns = m := Int.le_antisymm (k _ (lmax_mem (List.ne_nil_of_mem h))) (lmax_le m h)
theorem lmin_neg {ns : List Int} (h : ns ≠ []) : lmin (ns.map fun x => -x) = -lmax ns := lmin_eq (List.mem_map.mpr ⟨_, lmax_mem h, rfl⟩) fun y hy => by
  obtain ⟨x, hx, rfl⟩ := List.mem_map.mp hy
  have := lmax_le x hx
  omega
theorem lmax_neg {ns : List Int} (h : ns ≠ []) : lmax (ns.map fun x => -x) = -lmin ns := lmax_eq (List.mem_map.mpr ⟨_, lmin_mem h, rfl⟩) fun y hy => by
  obtain ⟨x, hx, rfl⟩ := List.mem_map.mp hy
  have := lmin_le x hx
  omega
theorem lmin_lmax {ns : List Int} (h : ns ≠ []) : lmin ns ≤ lmax ns := lmin_le _ (lmax_mem h)
theorem lmin_two {a b : Int} : lmin [a, b] = min a b := rfl
theorem lmax_two {a b : Int} : lmax [a, b] = max a b := rfl
theorem places_ne (p : Pl) (s : List Nat) : placesFrom p s ≠ [] := by intro h; have := places_len p s; rw [h] at this; simp at this
/-! spots -/
def sp2 (p : Pl) : Int × Int := (p.r, p.u)
theorem asc_nodup {l : List (Int × Int)} (h : Asc l) : l.Nodup := h.imp fun {a b} hab e => by subst e; have := lx_iff.mp hab; omega
theorem ssort_len {f : Int × Int → Int × Int} (hf : ∀ a b, f a = f b → a = b) (l : List (Int × Int)) : (ssort (l.map f)).length = (ssort l).length := by
  have n1 := asc_nodup (asc_ssort (l := l.map f))
  have n2 : ((ssort l).map f).Nodup := by
    refine List.pairwise_map.mpr ((asc_nodup (asc_ssort (l := l))).imp fun {a b} ne e => ne (hf a b e))
  have p := (List.perm_ext_iff_of_nodup n1 n2).mpr fun q => by
    rw [mem_ssort]
    constructor
    · intro h
      obtain ⟨x, hx, rfl⟩ := List.mem_map.mp h
      exact List.mem_map.mpr ⟨x, mem_ssort.mpr hx, rfl⟩
    · intro h
      obtain ⟨x, hx, rfl⟩ := List.mem_map.mp h
      exact List.mem_map.mpr ⟨x, mem_ssort.mp hx, rfl⟩
  have := p.length_eq
  rw [List.length_map] at this
  exact this
theorem spots_trn_len {q : Int} (h0 : 0 ≤ q) (h1 : q < 4) (l : List Pl) : (ssort ((l.map (trn q)).map sp2)).length = (ssort (l.map sp2)).length := by
  rw [show (l.map (trn q)).map sp2 = (l.map sp2).map fun a => (xq q a.1 a.2, yq q a.1 a.2) by rw [List.map_map, List.map_map]; rfl]
  refine ssort_len (fun a b e => ?_) _
  obtain ⟨a1, a2⟩ := a
  obtain ⟨b1, b2⟩ := b
  rcases four_q h0 h1 with rfl | rfl | rfl | rfl <;> simp [xq, yq] at e ⊢ <;> omega
theorem ssort_le : ∀ l : List (Int × Int), (ssort l).length ≤ l.length
  | [] => Nat.le_refl _
  | x :: r => by
    have h : ∀ (p : Int × Int) (l : List (Int × Int)), (insP p l).length ≤ l.length + 1 := fun p l => by
      induction l with
      | nil => exact Nat.le_refl _
      | cons y r ih =>
        unfold insP
        split
        · omega
        · split
          · simp
          · simp only [List.length_cons]; omega
    have a := h x (ssort r)
    have b := ssort_le r
    show (insP x (ssort r)).length ≤ r.length + 1
    omega
end G
set_option Elab.async false
set_option linter.all false
set_option maxRecDepth 100000
set_option maxHeartbeats 1000000
namespace G
/-! ### rounds -/
def closed (s : List Nat) : Prop := endFrom o0 s = o0
theorem comp_swap {a b : Pl} (ha : a.ok) (hb : b.ok) (h : comp a b = o0) : comp b a = o0 := by
  have h1 := Pl.way ha
  have h2 := Pl.way hb
  obtain ⟨r, u, w⟩ := a
  obtain ⟨x, y, z⟩ := b
  have e1 := congrArg Pl.r h
  have e2 := congrArg Pl.u h
  have e3 := congrArg Pl.w h
  simp only [comp, o0] at h1 h2 e1 e2 e3
  rcases h1 with rfl | rfl | rfl | rfl <;> rcases h2 with rfl | rfl | rfl | rfl <;> simp [dx, dy] at e1 e2 e3 <;> refine Pl.ext ?_ ?_ ?_ <;> simp [comp, o0, dx, dy] <;> omega
theorem comp_cancel {a b c : Pl} (ha : a.ok) (hb : b.ok) (hc : c.ok) (h : comp a b = comp a c) : b = c := by
  have h1 := Pl.way ha
  have e1 := congrArg Pl.r h
  have e2 := congrArg Pl.u h
  have e3 := congrArg Pl.w h
  obtain ⟨r, u, w⟩ := a
  obtain ⟨b1, b2⟩ := hb
  obtain ⟨c1, c2⟩ := hc
  simp only [comp] at h1 e1 e2 e3
  rcases h1 with rfl | rfl | rfl | rfl <;> simp [dx, dy] at e1 e2 <;> refine Pl.ext ?_ ?_ ?_ <;> omega
theorem closed_rot {u v : List Nat} (h : closed (u ++ v)) : closed (v ++ u) := by
  unfold closed at h ⊢
  rw [endFrom_app] at h ⊢
  rw [endFrom_eq (endFrom_ok o0_okk u)] at h
  rw [endFrom_eq (endFrom_ok o0_okk v)]
  exact comp_swap (endFrom_ok o0_okk _) (endFrom_ok o0_okk _) h
theorem closed_at {s : List Nat} (h : closed s) {p : Pl} (hp : p.ok) : endFrom p s = p := by
  rw [endFrom_eq hp, h, comp_o0 hp]
theorem end_mir {p : Pl} (hp : p.ok) : ∀ (s : List Nat), s.all isPc = true → endFrom (mir p) (s.map sw) = mir (endFrom p s) := by
  intro s
  induction s generalizing p with
  | nil => intro _; rfl
  | cons c r ih =>
    intro h
    rw [List.all_cons, Bool.and_eq_true] at h
    show endFrom (nxt (mir p) (sw c)) (r.map sw) = mir (endFrom (nxt p c) r)
    rw [nxt_mir hp h.1, ih (nxt_ok hp c) h.2]
theorem closed_mir {s : List Nat} (hs : s.all isPc = true) (h : closed s) : closed (s.map sw) := by
  have e := end_mir o0_okk s hs
  have e0 : mir o0 = o0 := rfl
  rw [e0, show endFrom o0 s = o0 from h, e0] at e
  exact e
/-- turned about -/
def flp (p : Pl) : Pl := ⟨p.r, p.u, (p.w + 2) % 4⟩
theorem flp_ok (p : Pl) : (flp p).ok := ⟨Int.emod_nonneg _ (by omega), by show (p.w + 2) % 4 ≤ 3; have := Int.emod_lt_of_pos (p.w + 2) (show (0 : Int) < 4 by omega); omega⟩
theorem nxt_flp {p : Pl} (hp : p.ok) {c : Nat} (hc : isPc c = true) : nxt (flp (nxt p c)) (sw c) = flp p := by
  have hw := Pl.way hp
  obtain ⟨r, u, w⟩ := p
  simp only at hw
  rcases hw with rfl | rfl | rfl | rfl <;> rcases isPc_or hc with rfl | rfl | rfl <;> refine Pl.ext ?_ ?_ ?_ <;> simp [nxt, flp, sw, dx, dy] <;> omega
theorem end_back {p : Pl} (hp : p.ok) : ∀ s : List Nat, s.all isPc = true → endFrom (flp (endFrom p s)) (s.reverse.map sw) = flp p := by
  intro s
  induction s generalizing p with
  | nil => intro _; rfl
  | cons c r ih =>
    intro h
    rw [List.all_cons, Bool.and_eq_true] at h
    rw [List.reverse_cons, List.map_append, endFrom_app]
    show endFrom (endFrom (flp (endFrom (nxt p c) r)) (r.reverse.map sw)) [sw c] = flp p
    rw [ih (nxt_ok hp c) h.2]
    exact nxt_flp hp h.1
theorem closed_back {s : List Nat} (hs : s.all isPc = true) (h : closed s) : closed (s.reverse.map sw) := by
  have e := end_back o0_okk s hs
  rw [show endFrom o0 s = o0 from h] at e
  rw [endFrom_eq (flp_ok o0)] at e
  exact comp_cancel (flp_ok o0) (endFrom_ok o0_okk _) o0_okk (e.trans (comp_o0 (flp_ok o0)).symm)
theorem closed_turns {s : List Nat} (hs : s.all isPc = true) (h : closed s) : (((s.count 108 : Nat) : Int) - ((s.count 114 : Nat) : Int)) % 4 = 0 := by
  have e := end_turn o0 o0_okk s hs
  rw [show endFrom o0 s = o0 from h] at e
  simp only [o0] at e
  omega
theorem nxt_par {p : Pl} (hp : p.ok) {c : Nat} (hc : isPc c = true) : ((nxt p c).r + (nxt p c).u + (nxt p c).w) % 2 = (p.r + p.u + p.w + 1) % 2 := by
  have hw := Pl.way hp
  obtain ⟨r, u, w⟩ := p
  simp only at hw
  rcases hw with rfl | rfl | rfl | rfl <;> rcases isPc_or hc with rfl | rfl | rfl <;> simp [nxt, dx, dy] <;> omega
theorem end_par {p : Pl} (hp : p.ok) : ∀ s : List Nat, s.all isPc = true → ((endFrom p s).r + (endFrom p s).u + (endFrom p s).w) % 2 = (p.r + p.u + p.w + (s.length : Int)) % 2 := by
  intro s
  induction s generalizing p with
  | nil => intro _; simp [endFrom]
  | cons c r ih =>
    intro h
    rw [List.all_cons, Bool.and_eq_true] at h
    have a := ih (nxt_ok hp c) h.2
    have b := nxt_par hp h.1
    show ((endFrom (nxt p c) r).r + (endFrom (nxt p c) r).u + (endFrom (nxt p c) r).w) % 2 = _
    rw [a, List.length_cons]
    omega
theorem closed_even {s : List Nat} (hs : s.all isPc = true) (h : closed s) : s.length % 2 = 0 := by
  have e := end_par o0_okk s hs
  rw [show endFrom o0 s = o0 from h] at e
  simp only [o0] at e
  omega
theorem counts_all : ∀ s : List Nat, s.all isPc = true → s.count 115 + s.count 108 + s.count 114 = s.length
  | [], _ => rfl
  | c :: r, h => by
    rw [List.all_cons, Bool.and_eq_true] at h
    have ih := counts_all r h.2
    rcases isPc_or h.1 with rfl | rfl | rfl <;> simp [List.count_cons] <;> omega
/-- how far a word leads -/
theorem nxt_near {p : Pl} (hp : p.ok) (c : Nat) : (p.r - 1 ≤ (nxt p c).r ∧ (nxt p c).r ≤ p.r + 1) ∧ (p.u - 1 ≤ (nxt p c).u ∧ (nxt p c).u ≤ p.u + 1) := by
  have hw := Pl.way hp
  obtain ⟨r, u, w⟩ := p
  simp only at hw
  by_cases e1 : c = 115
  · rcases hw with rfl | rfl | rfl | rfl <;> simp [nxt, e1, dx, dy] <;> omega
  · by_cases e2 : c = 108
    · rcases hw with rfl | rfl | rfl | rfl <;> simp [nxt, e2, dx, dy] <;> omega
    · rcases hw with rfl | rfl | rfl | rfl <;> simp [nxt, e1, e2, dx, dy] <;> omega
theorem end_near {p : Pl} (hp : p.ok) : ∀ s : List Nat, (p.r - s.length ≤ (endFrom p s).r ∧ (endFrom p s).r ≤ p.r + s.length) ∧ (p.u - s.length ≤ (endFrom p s).u ∧ (endFrom p s).u ≤ p.u + s.length) := by
  intro s
  induction s generalizing p with
  | nil => simp [endFrom]
  | cons c r ih =>
    have a := ih (nxt_ok hp c)
    have b := nxt_near hp c
    show (_ ≤ (endFrom (nxt p c) r).r ∧ (endFrom (nxt p c) r).r ≤ _) ∧ (_ ≤ (endFrom (nxt p c) r).u ∧ (endFrom (nxt p c) r).u ≤ _)
    rw [List.length_cons]
    omega
/-! places along a word in two parts -/
theorem mem_places_app {x p : Pl} : ∀ u v : List Nat, x ∈ placesFrom p (u ++ v) ↔ x ∈ placesFrom p u ∨ x ∈ placesFrom (endFrom p u) v := by
  intro u
  induction u generalizing p with
  | nil =>
    intro v
    show x ∈ placesFrom p v ↔ x ∈ [p] ∨ x ∈ placesFrom p v
    have : p ∈ placesFrom p v := by cases v <;> simp [placesFrom]
    constructor
    · exact .inr
    · rintro (h | h)
      · rw [List.mem_singleton.mp h]; exact this
      · exact h
  | cons c r ih =>
    intro v
    show x ∈ p :: placesFrom (nxt p c) (r ++ v) ↔ x ∈ p :: placesFrom (nxt p c) r ∨ x ∈ placesFrom (endFrom (nxt p c) r) v
    rw [List.mem_cons, ih, List.mem_cons, or_assoc]
theorem spots_rot {p : Pl} {u v : List Nat} (h : endFrom p (u ++ v) = p) : ssort ((placesFrom p (u ++ v)).map sp2) = ssort ((placesFrom (endFrom p u) (v ++ u)).map sp2) := by
  refine asc_eq asc_ssort asc_ssort fun q => ?_
  have e : endFrom (endFrom p u) v = p := by rw [← endFrom_app]; exact h
  rw [mem_ssort, mem_ssort, List.mem_map, List.mem_map]
  constructor
  · rintro ⟨x, hx, rfl⟩
    refine ⟨x, ?_, rfl⟩
    rw [mem_places_app] at hx ⊢
    rw [e]
    exact hx.symm
  · rintro ⟨x, hx, rfl⟩
    refine ⟨x, ?_, rfl⟩
    rw [mem_places_app] at hx ⊢
    rw [e] at hx
    exact hx.symm
/-! the closing piece -/
def closeB (s : List Nat) (c : Nat) : Bool := decide (endFrom o0 (s ++ [c]) = o0)
theorem nxt_o_inj {c d : Nat} (hc : isPc c = true) (hd : isPc d = true) (h : nxt o0 c = nxt o0 d) : c = d := by
  rcases isPc_or hc with rfl | rfl | rfl <;> rcases isPc_or hd with rfl | rfl | rfl <;> first | rfl | (simp [nxt, o0, dx, dy] at h)
theorem close_one {s : List Nat} {c d : Nat} (hc : isPc c = true) (hd : isPc d = true) (h1 : closeB s c = true) (h2 : closeB s d = true) : c = d := by
  have e1 := of_decide_eq_true h1
  have e2 := of_decide_eq_true h2
  rw [endFrom_app, endFrom_eq (endFrom_ok o0_okk s)] at e1 e2
  have := comp_cancel (endFrom_ok o0_okk s) (endFrom_ok o0_okk _) (endFrom_ok o0_okk _) (e1.trans e2.symm)
  exact nxt_o_inj hc hd this
def closers (s : List Nat) : List Nat := [115, 108, 114].filter (closeB s)
theorem closers_of {s : List Nat} {c : Nat} (hc : isPc c = true) (h : closeB s c = true) : closers s = [c] := by
  have k : ∀ d, isPc d = true → closeB s d = decide (d = c) := fun d hd => by
    by_cases e : d = c
    · subst e; rw [h]; simp
    · cases e2 : closeB s d
      · simp [e]
      · exact absurd (close_one hd hc e2 h) e
  unfold closers
  rcases isPc_or hc with rfl | rfl | rfl <;> simp [List.filter_cons, k 115 rfl, k 108 rfl, k 114 rfl]
theorem closers_le (s : List Nat) : (closers s).length ≤ 1 := by
  by_cases h : ∃ c, isPc c = true ∧ closeB s c = true
  · obtain ⟨c, h1, h2⟩ := h
    rw [closers_of h1 h2]; simp
  · have : closers s = [] := by
      unfold closers
      refine List.filter_eq_nil_iff.mpr fun d hd hb => h ⟨d, ?_, hb⟩
      simp only [List.mem_cons, List.mem_nil_iff, or_false] at hd
      rcases hd with rfl | rfl | rfl <;> rfl
    rw [this]; simp
/-! cuts -/
theorem plD_none {n d : Nat} : plD n d none = d := rfl
theorem plD_pos {n d : Nat} {k : Int} (h0 : 0 ≤ k) (h1 : k ≤ n) : plD n d (some k) = k.toNat := by
  show (if k < 0 then (k + (n : Int)).toNat else min k.toNat n) = _
  rw [if_neg (by omega)]
  omega
theorem plD_neg {n d : Nat} {k : Int} (h0 : k < 0) : plD n d (some k) = (k + (n : Int)).toNat := by
  show (if k < 0 then (k + (n : Int)).toNat else min k.toNat n) = _
  rw [if_pos h0]
theorem cut_at {α : Type} {s : List α} {k : Int} (h0 : 0 ≤ k) (h1 : k ≤ s.length) : cutD s (some k) none = s.drop k.toNat := by
  unfold cutD
  rw [plD_none, plD_pos h0 h1]
  exact List.take_of_length_le (by simp)
theorem cut_m1 {α : Type} {u : List α} {c : α} : cutD (u ++ [c]) none (some (-1)) = u := by
  unfold cutD
  rw [plD_none, plD_neg (by omega), List.drop_zero]
  rw [show ((-1 : Int) + ((u ++ [c]).length : Int)).toNat - 0 = u.length by simp; omega]
  simp
theorem round_of {t : List Nat} (h : (endFrom o0 t).w = 2) : closed (t ++ t) := by
  have e := endFrom_rep (s := t) 2
  rw [pw2 h] at e
  rw [show (List.replicate 2 t).flatten = t ++ t by simp [List.replicate]] at e
  exact e
end G
set_option Elab.async false
set_option linter.all false
set_option maxRecDepth 100000
set_option maxHeartbeats 1000000
namespace G
/-! ### plans of spots: when they are passed -/
abbrev Sp := Int × Int
def hitsL (q : Sp) : List Sp → Nat → List Nat
  | [], _ => []
  | h :: t, a => if h = q then a :: hitsL q t (a + 1) else hitsL q t (a + 1)
theorem hits_comp (q : Sp) : ∀ (l : List Sp) (a : Nat), ((List.range l.length).filter fun i => decide (l[i]? = some q)).map (fun i => a + i) = hitsL q l a
  | [], a => rfl
  | h :: t, a => by
    have ih := hits_comp q t (a + 1)
    rw [List.length_cons, List.range_succ_eq_map, List.filter_cons, List.filter_map]
    have e : ((List.range t.length).filter ((fun i => decide ((h :: t)[i]? = some q)) ∘ Nat.succ)).map Nat.succ = ((List.range t.length).filter fun i => decide (t[i]? = some q)).map Nat.succ := rfl
    have e2 : (((List.range t.length).filter fun i => decide (t[i]? = some q)).map Nat.succ).map (fun i => a + i) = hitsL q t (a + 1) := by
      rw [← ih, List.map_map]
      exact List.map_congr_left fun i _ => by simp; omega
    by_cases hq : h = q
    · rw [if_pos (by simp [hq]), e, List.map_cons, e2, hitsL, if_pos hq]; rfl
    · rw [if_neg (by simp [hq]), e, e2, hitsL, if_neg hq]
/-- the first turns at which the rows are at the plan's spots, one behind the other -/
def timesF (rows : List Sp) : Nat → List Sp → Option (List Nat)
  | _, [] => some []
  | a, q :: r => match hitsL q (rows.drop a) a with
    | [] => none
    | i :: _ => (timesF rows i r).map (i :: ·)
def mt : List Sp → List Sp → Bool
  | _, [] => true
  | [], _ :: _ => false
  | h :: rs, q :: r => if h = q then mt (h :: rs) r else mt rs (q :: r)
termination_by rs r => rs.length + r.length
def lgN : List Sp → List Sp → Nat
  | [], _ => 0
  | h :: r, plan => (plan.takeWhile fun q => decide (q = h)).length + lgN r (plan.drop (plan.takeWhile fun q => decide (q = h)).length)
theorem mt_nil (l : List Sp) : mt l [] = true := by unfold mt; rfl
theorem mt_cons (h q : Sp) (rs r : List Sp) : mt (h :: rs) (q :: r) = if h = q then mt (h :: rs) r else mt rs (q :: r) := by rw [mt]
theorem mt_e (q : Sp) (r : List Sp) : mt [] (q :: r) = false := by rw [mt]
theorem hits_mt (q : Sp) (r : List Sp) : ∀ (l : List Sp) (a : Nat), (hitsL q l a = [] ∧ mt l (q :: r) = false) ∨ ∃ i t, hitsL q l a = (a + i) :: t ∧ i < l.length ∧ mt l (q :: r) = mt (l.drop i) r
  | [], a => .inl ⟨rfl, mt_e q r⟩
  | h :: t, a => by
    by_cases hq : h = q
    · refine .inr ⟨0, hitsL q t (a + 1), by rw [hitsL, if_pos hq]; rfl, by simp, ?_⟩
      rw [mt_cons, if_pos hq]; rfl
    · rw [hitsL, if_neg hq, mt_cons, if_neg hq]
      rcases hits_mt q r t (a + 1) with ⟨h1, h2⟩ | ⟨i, u, h1, h2, h3⟩
      · exact .inl ⟨h1, h2⟩
      · exact .inr ⟨i + 1, u, by rw [h1]; congr 1; omega, by simp; omega, by rw [h3]; rfl⟩
theorem times_mt (rows : List Sp) : ∀ (plan : List Sp) (a : Nat), (timesF rows a plan).isSome = mt (rows.drop a) plan
  | [], a => by rw [mt_nil]; rfl
  | q :: r, a => by
    rw [timesF]
    rcases hits_mt q r (rows.drop a) a with ⟨h1, h2⟩ | ⟨i, u, h1, h2, h3⟩
    · rw [h1, h2]; rfl
    · rw [h1, h3]
      show ((timesF rows (a + i) r).map _).isSome = _
      rw [Option.isSome_map, times_mt rows r (a + i), List.drop_drop]
theorem mt_take : ∀ (rows plan : List Sp) (k : Nat), k ≤ plan.length → (mt rows (plan.take k) = true ↔ k ≤ lgN rows plan)
  | [], plan, k, hk => by
    cases k with
    | zero => simp [mt_nil]
    | succ k =>
      cases plan with
      | nil => simp at hk
      | cons q r => rw [List.take_succ_cons, mt_e]; simp [lgN]
  | h :: rs, [], k, hk => by
    have : k = 0 := by simpa using hk
    subst this
    simp [mt_nil]
  | h :: rs, q :: ps, k, hk => by
    cases k with
    | zero => simp [mt_nil]
    | succ k =>
      rw [List.take_succ_cons, mt_cons]
      by_cases hq : h = q
      · subst hq
        rw [if_pos rfl, mt_take (h :: rs) ps k (by simpa using hk)]
        have e : lgN (h :: rs) (h :: ps) = lgN (h :: rs) ps + 1 := by
          show ((h :: ps).takeWhile fun q => decide (q = h)).length + lgN rs ((h :: ps).drop ((h :: ps).takeWhile fun q => decide (q = h)).length) = (ps.takeWhile fun q => decide (q = h)).length + lgN rs (ps.drop (ps.takeWhile fun q => decide (q = h)).length) + 1
          rw [List.takeWhile_cons_of_pos (by simp)]
          rw [List.length_cons, List.drop_succ_cons]
          omega
        omega
      · rw [if_neg hq, ← List.take_succ_cons, mt_take rs (q :: ps) (k + 1) hk]
        have e : lgN (h :: rs) (q :: ps) = lgN rs (q :: ps) := by
          show ((q :: ps).takeWhile fun x => decide (x = h)).length + _ = _
          rw [List.takeWhile_cons_of_neg (by simpa using fun z => hq z.symm)]
          simp
        omega
termination_by rows plan => rows.length + plan.length
theorem lgN_le : ∀ (rows plan : List Sp), lgN rows plan ≤ plan.length
  | [], _ => Nat.zero_le _
  | h :: r, plan => by
    have a := lgN_le r (plan.drop (plan.takeWhile fun q => decide (q = h)).length)
    have b : (plan.takeWhile fun q => decide (q = h)).length ≤ plan.length := List.Sublist.length_le (List.takeWhile_sublist _)
    rw [List.length_drop] at a
    show _ + lgN r _ ≤ _
    omega
/-- the sizes of beginnings that are passed: the last is the longest -/
theorem sizes_last (rows plan : List Sp) : ((List.range (plan.length + 1)).filter fun k => decide (k = 0) || (timesF rows 0 (plan.take k)).isSome) = List.range (lgN rows plan + 1) := by
  have hl := lgN_le rows plan
  have e : ((List.range (plan.length + 1)).filter fun k => decide (k = 0) || (timesF rows 0 (plan.take k)).isSome) = (List.range (plan.length + 1)).filter fun k => decide (k ≤ lgN rows plan) := by
    refine List.filter_congr fun k hk => ?_
    rw [List.mem_range] at hk
    rw [times_mt, List.drop_zero, Bool.eq_iff_iff, Bool.or_eq_true, mt_take rows plan k (by omega), decide_eq_true_eq, decide_eq_true_eq]
    omega
  rw [e]
  have : ∀ m n : Nat, m ≤ n → (List.range (n + 1)).filter (fun k => decide (k ≤ m)) = List.range (m + 1) := by
    intro m n h
    obtain ⟨d, rfl⟩ := Nat.le.dest h
    rw [show m + d + 1 = (m + 1) + d by omega, List.range_add, List.filter_append]
    rw [List.filter_eq_self.mpr (fun x hx => by rw [List.mem_range] at hx; exact decide_eq_true (by omega))]
    rw [List.filter_eq_nil_iff.mpr (fun x hx => by
      obtain ⟨y, _, rfl⟩ := List.mem_map.mp hx
      simp; omega)]
    rw [List.append_nil]
  exact this _ _ hl
mutual
theorem mt_mono (h : Sp) (l : List Sp) : ∀ r : List Sp, mt l r = true → mt (h :: l) r = true
  | [], _ => mt_nil _
  | q :: r, hm => by
    rw [mt_cons]
    by_cases e : h = q
    · rw [if_pos e]; exact mt_mono h l r (mt_tail l q r hm)
    · rw [if_neg e]; exact hm
termination_by r => 2 * (l.length + r.length) + 1
theorem mt_tail : ∀ (l : List Sp) (q : Sp) (r : List Sp), mt l (q :: r) = true → mt l r = true
  | [], q, r, hm => by rw [mt_e] at hm; cases hm
  | h :: l, q, r, hm => by
    rw [mt_cons] at hm
    by_cases e : h = q
    · rw [if_pos e] at hm; exact hm
    · rw [if_neg e] at hm; exact mt_mono h l r (mt_tail l q r hm)
termination_by l q r => 2 * (l.length + r.length) + 2
end
theorem mt_app (pre : List Sp) {l r : List Sp} (h : mt l r = true) : mt (pre ++ l) r = true := by
  induction pre with
  | nil => exact h
  | cons x p ih => exact mt_mono x _ r ih
/-- spots at rising numbers are passed -/
theorem mt_sorted {rows : List Sp} (f : Nat → Sp) : ∀ (ns : List Nat) (a : Nat), ns.Pairwise (· ≤ ·) → (∀ n ∈ ns, a ≤ n ∧ rows[n]? = some (f n)) → mt (rows.drop a) (ns.map f) = true
  | [], _, _, _ => mt_nil _
  | n :: ns, a, hs, hn => by
    obtain ⟨h1, h2⟩ := hn n List.mem_cons_self
    obtain ⟨s1, s2⟩ := List.pairwise_cons.mp hs
    obtain ⟨h3, h4⟩ := List.getElem?_eq_some_iff.mp h2
    have ih := mt_sorted f ns n s2 fun m hm => ⟨s1 m hm, (hn m (List.mem_cons_of_mem _ hm)).2⟩
    have e : rows.drop n = f n :: rows.drop (n + 1) := by rw [List.drop_eq_getElem_cons h3, h4]
    have m1 : mt (rows.drop n) (f n :: ns.map f) = true := by
      rw [e, mt_cons, if_pos rfl, ← e]; exact ih
    have e2 : rows.drop a = (rows.drop a).take (n - a) ++ rows.drop n := by
      rw [show rows.drop n = (rows.drop a).drop (n - a) by rw [List.drop_drop]; congr 1; omega, List.take_append_drop]
    rw [List.map_cons, e2]
    exact mt_app _ m1
end G
set_option Elab.async false
set_option linter.all false
set_option maxRecDepth 100000
set_option maxHeartbeats 1000000
namespace G
/-! ### places by eighths: four integers by the powers of an eighth turn -/
structure Q4 where
  a : Int
  b : Int
  c : Int
  d : Int
deriving DecidableEq
theorem Q4.ext {p q : Q4} (h1 : p.a = q.a) (h2 : p.b = q.b) (h3 : p.c = q.c) (h4 : p.d = q.d) : p = q := by cases p; cases q; simp only at h1 h2 h3 h4; subst h1 h2 h3 h4; rfl
def qadd (p q : Q4) : Q4 := ⟨p.a + q.a, p.b + q.b, p.c + q.c, p.d + q.d⟩
def rot (q : Q4) : Q4 := ⟨-q.d, q.a, q.b, q.c⟩
def rotk : Nat → Q4 → Q4
  | 0, q => q
  | n + 1, q => rot (rotk n q)
def rotW (w : Int) (q : Q4) : Q4 := rotk (w % 8).toNat q
def q0 : Q4 := ⟨0, 0, 0, 0⟩
def q1 : Q4 := ⟨1, 0, 0, 0⟩
theorem qadd_comm (p q : Q4) : qadd p q = qadd q p := Q4.ext (Int.add_comm _ _) (Int.add_comm _ _) (Int.add_comm _ _) (Int.add_comm _ _)
theorem qadd_assoc (p q r : Q4) : qadd (qadd p q) r = qadd p (qadd q r) := Q4.ext (Int.add_assoc _ _ _) (Int.add_assoc _ _ _) (Int.add_assoc _ _ _) (Int.add_assoc _ _ _)
theorem qadd_0 (p : Q4) : qadd p q0 = p := Q4.ext (Int.add_zero _) (Int.add_zero _) (Int.add_zero _) (Int.add_zero _)
theorem zero_qadd (p : Q4) : qadd q0 p = p := by rw [qadd_comm, qadd_0]
theorem rot_add (p q : Q4) : rot (qadd p q) = qadd (rot p) (rot q) := by
  refine Q4.ext ?_ rfl rfl rfl
  show -(p.d + q.d) = -p.d + -q.d
  omega
theorem rotk_add (p q : Q4) : ∀ n, rotk n (qadd p q) = qadd (rotk n p) (rotk n q)
  | 0 => rfl
  | n + 1 => by show rot _ = qadd (rot _) (rot _); rw [rotk_add p q n, rot_add]
theorem rotk_0 : ∀ n, rotk n q0 = q0
  | 0 => rfl
  | n + 1 => by show rot (rotk n q0) = q0; rw [rotk_0 n]; rfl
theorem rotk_plus (q : Q4) (m : Nat) : ∀ n, rotk (n + m) q = rotk n (rotk m q)
  | 0 => by rw [Nat.zero_add]; rfl
  | n + 1 => by rw [Nat.succ_add]; show rot (rotk (n + m) q) = rot _; rw [rotk_plus q m n]
theorem rotk_8 (q : Q4) : rotk 8 q = q := by
  refine Q4.ext ?_ ?_ ?_ ?_ <;> simp [rotk, rot]
theorem rotk_mod (q : Q4) (n : Nat) : rotk n q = rotk (n % 8) q := by
  have key : ∀ k, rotk (n % 8 + 8 * k) q = rotk (n % 8) q := by
    intro k
    induction k with
    | zero => rfl
    | succ k ih => rw [show n % 8 + 8 * (k + 1) = (n % 8 + 8 * k) + 8 by omega, rotk_plus, rotk_8, ih]
  have := key (n / 8)
  rwa [Nat.mod_add_div] at this
theorem rotW_add (w : Int) (p q : Q4) : rotW w (qadd p q) = qadd (rotW w p) (rotW w q) := rotk_add p q _
theorem rotW_rotW (v w : Int) (q : Q4) : rotW v (rotW w q) = rotW (v + w) q := by
  unfold rotW
  rw [← rotk_plus, rotk_mod]
  congr 1
  have h1 := Int.emod_nonneg v (show (8 : Int) ≠ 0 by omega)
  have h2 := Int.emod_nonneg w (show (8 : Int) ≠ 0 by omega)
  have h3 := Int.emod_nonneg (v + w) (show (8 : Int) ≠ 0 by omega)
  omega
theorem rotW_mod (w : Int) (q : Q4) : rotW (w % 8) q = rotW w q := by unfold rotW; rw [Int.emod_emod_of_dvd _ (Int.dvd_refl 8)]
theorem rotW_0 (q : Q4) : rotW 0 q = q := rfl
/-- a place and a way -/
structure E8 where
  z : Q4
  w : Int
deriving DecidableEq
theorem E8.ext {p q : E8} (h1 : p.z = q.z) (h2 : p.w = q.w) : p = q := by cases p; cases q; simp only at h1 h2; subst h1 h2; rfl
def E8.ok (e : E8) : Prop := 0 ≤ e.w ∧ e.w < 8
def dlt (c : Nat) : Q4 := if c = 115 then q1 else if c = 108 then ⟨0, 0, 1, -1⟩ else ⟨0, 1, -1, 0⟩
def tau (c : Nat) : Int := if c = 115 then 0 else if c = 108 then 1 else -1
def stepE (e : E8) (c : Nat) : E8 := ⟨qadd e.z (rotW e.w (dlt c)), (e.w + tau c) % 8⟩
def e0 : E8 := ⟨q0, 0⟩
def endE (e : E8) (s : List Nat) : E8 := s.foldl stepE e
def trailE (e : E8) : List Nat → List E8
  | [] => [e]
  | c :: s => e :: trailE (stepE e c) s
theorem stepE_ok (e : E8) (c : Nat) : (stepE e c).ok := ⟨Int.emod_nonneg _ (by omega), Int.emod_lt_of_pos _ (by omega)⟩
theorem endE_ok {e : E8} (h : e.ok) : ∀ s, (endE e s).ok := by
  intro s
  induction s generalizing e with
  | nil => exact h
  | cons c s ih => exact ih (stepE_ok e c)
theorem e0_ok : e0.ok := ⟨by decide, by decide⟩
theorem trail_len (e : E8) : ∀ s : List Nat, (trailE e s).length = s.length + 1
  | [] => rfl
  | c :: s => by show (trailE (stepE e c) s).length + 1 = _; rw [trail_len]; rfl
theorem trail_last (e : E8) : ∀ s : List Nat, (trailE e s).getLast? = some (endE e s)
  | [] => rfl
  | c :: s => by
    have ih := trail_last (stepE e c) s
    show (e :: trailE (stepE e c) s).getLast? = some (endE (stepE e c) s)
    rw [List.getLast?_cons, ih]
    rfl
def act (e f : E8) : E8 := ⟨qadd e.z (rotW e.w f.z), (e.w + f.w) % 8⟩
theorem step_act (e f : E8) (c : Nat) : stepE (act e f) c = act e (stepE f c) := by
  refine E8.ext ?_ ?_
  · show qadd (qadd e.z (rotW e.w f.z)) (rotW ((e.w + f.w) % 8) (dlt c)) = qadd e.z (rotW e.w (qadd f.z (rotW f.w (dlt c))))
    rw [rotW_mod, rotW_add, rotW_rotW, qadd_assoc]
  · show ((e.w + f.w) % 8 + tau c) % 8 = (e.w + (f.w + tau c) % 8) % 8
    omega
theorem end_act (e : E8) : ∀ (s : List Nat) (f : E8), endE (act e f) s = act e (endE f s)
  | [], _ => rfl
  | c :: s, f => by
    show endE (stepE (act e f) c) s = act e (endE (stepE f c) s)
    rw [step_act, end_act e s]
theorem act_e0 {e : E8} (h : e.ok) : act e e0 = e := by
  obtain ⟨h1, h2⟩ := h
  refine E8.ext ?_ ?_
  · show qadd e.z (rotW e.w q0) = e.z
    rw [show rotW e.w q0 = q0 from rotk_0 _, qadd_0]
  · show (e.w + 0) % 8 = e.w
    omega
theorem end_eq {e : E8} (h : e.ok) (s : List Nat) : endE e s = act e (endE e0 s) := by rw [← end_act, act_e0 h]
def invE (e : E8) : E8 := ⟨rotW (-e.w) e.z, (-e.w) % 8⟩
theorem dlt_sw {c : Nat} (hc : isPc c = true) : rotW (-tau c) (dlt c) = dlt (sw c) ∧ tau (sw c) = -tau c := by
  rcases isPc_or hc with rfl | rfl | rfl <;> exact ⟨rfl, rfl⟩
theorem end_back8 : ∀ s : List Nat, s.all isPc = true → endE e0 (s.reverse.map sw) = invE (endE e0 s)
  | [], _ => rfl
  | c :: s, h => by
    rw [List.all_cons, Bool.and_eq_true] at h
    obtain ⟨h1, h2⟩ := dlt_sw h.1
    rw [List.reverse_cons, List.map_append]
    show (s.reverse.map sw ++ [sw c]).foldl stepE e0 = _
    rw [List.foldl_append]
    show stepE (endE e0 (s.reverse.map sw)) (sw c) = invE (endE (stepE e0 c) s)
    rw [end_back8 s h.2, end_eq (stepE_ok e0 c)]
    generalize endE e0 s = F
    have hz : (stepE e0 c).z = dlt c := by show qadd q0 (rotW 0 (dlt c)) = _; rw [zero_qadd, rotW_0]
    have hw : (stepE e0 c).w = tau c % 8 := by show (0 + tau c) % 8 = _; rw [Int.zero_add]
    refine E8.ext ?_ ?_
    · show qadd (rotW (-F.w) F.z) (rotW ((-F.w) % 8) (dlt (sw c))) = rotW (-((((stepE e0 c).w) + F.w) % 8)) (qadd (stepE e0 c).z (rotW (stepE e0 c).w F.z))
      rw [hz, hw, rotW_mod, rotW_add, rotW_rotW, ← h1, rotW_rotW, qadd_comm]
      have m : ∀ (u v : Int) (q : Q4), u % 8 = v % 8 → rotW u q = rotW v q := fun u v q e => by rw [← rotW_mod u, ← rotW_mod v, e]
      rw [m (-((tau c % 8 + F.w) % 8)) (-F.w + -tau c) (dlt c) (by omega), m (-((tau c % 8 + F.w) % 8) + tau c % 8) (-F.w) F.z (by omega)]
    · show ((-F.w) % 8 + tau (sw c)) % 8 = (-((((stepE e0 c).w) + F.w) % 8)) % 8
      rw [hw, h2]
      omega
theorem inv_zero {e : E8} (h : e.ok) : invE e = e0 ↔ e = e0 := by
  obtain ⟨h1, h2⟩ := h
  constructor
  · intro he
    have a := congrArg E8.z he
    have b := congrArg E8.w he
    simp only [invE, e0] at a b
    have hw : e.w = 0 := by omega
    have hz : rotW e.w (rotW (-e.w) e.z) = rotW e.w q0 := by rw [a]
    rw [rotW_rotW, show e.w + -e.w = 0 by omega, rotW_0, show rotW e.w q0 = q0 from rotk_0 _] at hz
    exact E8.ext hz hw
  · rintro rfl; rfl
/-! a quarter's word, each curve twice -/
def dblc (c : Nat) : List Nat := if c = 115 then [115] else [c, c]
def dbl (s : List Nat) : List Nat := (s.map dblc).flatten
def emb (p : Pl) : E8 := ⟨⟨p.r, 0, p.u, 0⟩, 2 * p.w⟩
theorem emb_nxt {p : Pl} (hp : p.ok) {c : Nat} (hc : isPc c = true) : endE (emb p) (dblc c) = emb (nxt p c) := by
  have hw := Pl.way hp
  obtain ⟨r, u, w⟩ := p
  simp only at hw
  rcases hw with rfl | rfl | rfl | rfl <;> rcases isPc_or hc with rfl | rfl | rfl <;> refine E8.ext (Q4.ext ?_ ?_ ?_ ?_) ?_ <;> simp [emb, endE, dblc, stepE, dlt, tau, q1, qadd, rotW, rotk, rot, nxt, dx, dy] <;> omega
theorem end_dbl : ∀ (s : List Nat) (p : Pl), p.ok → s.all isPc = true → endE (emb p) (dbl s) = emb (endFrom p s)
  | [], _, _, _ => rfl
  | c :: s, p, hp, h => by
    rw [List.all_cons, Bool.and_eq_true] at h
    show (dblc c ++ dbl s).foldl stepE (emb p) = emb (endFrom (nxt p c) s)
    rw [List.foldl_append]
    show endE (endE (emb p) (dblc c)) (dbl s) = _
    rw [emb_nxt hp h.1, end_dbl s _ (nxt_ok hp c) h.2]
/-- back to quarters -/
def tq : List Nat → Option (List Nat)
  | [] => some []
  | 115 :: r => (tq r).map (115 :: ·)
  | c :: d :: r => if c = d then (tq r).map (c :: ·) else none
  | [_] => none
end G
set_option Elab.async false
set_option linter.all false
set_option maxRecDepth 100000
namespace G
/-! ### numbers of places round a closed round -/
theorem emod_case {x n : Int} (h0 : 0 < n) (h1 : -n ≤ x) (h2 : x < n + n) : (x < 0 ∧ x % n = x + n) ∨ (0 ≤ x ∧ x < n ∧ x % n = x) ∨ (n ≤ x ∧ x % n = x - n) := by
  by_cases a : x < 0
  · left
    refine ⟨a, ?_⟩
    rw [← Int.add_emod_right, Int.emod_eq_of_lt (by omega) (by omega)]
  · by_cases b : x < n
    · right; left
      exact ⟨by omega, b, Int.emod_eq_of_lt (by omega) b⟩
    · right; right
      refine ⟨by omega, ?_⟩
      have : x % n = (x - n) % n := by rw [← Int.add_emod_right (x - n) n]; congr 1; omega
      rw [this, Int.emod_eq_of_lt (by omega) (by omega)]
/-- pieces ahead -/
def ahd (n a b : Int) : Int := (b - a) % n
theorem ahd_case {n a b : Int} (a0 : 0 ≤ a) (a1 : a < n) (b0 : 0 ≤ b) (b1 : b < n) : (a ≤ b ∧ ahd n a b = b - a) ∨ (b < a ∧ ahd n a b = b - a + n) := by
  unfold ahd
  rcases emod_case (x := b - a) (n := n) (by omega) (by omega) (by omega) with ⟨h, e⟩ | ⟨h, h', e⟩ | ⟨h, e⟩ <;> omega
/-- pieces between -/
def btw (n a b : Int) : Int := min (ahd n a b) (n - ahd n a b)
theorem btw_tri {n a b c : Int} (a0 : 0 ≤ a) (a1 : a < n) (b0 : 0 ≤ b) (b1 : b < n) (c0 : 0 ≤ c) (c1 : c < n) : btw n a b ≤ btw n a c + btw n c b := by
  unfold btw
  rcases ahd_case a0 a1 b0 b1 with ⟨h1, e1⟩ | ⟨h1, e1⟩ <;> rcases ahd_case a0 a1 c0 c1 with ⟨h2, e2⟩ | ⟨h2, e2⟩ <;> rcases ahd_case c0 c1 b0 b1 with ⟨h3, e3⟩ | ⟨h3, e3⟩ <;> rw [e1, e2, e3] <;> omega
theorem btw_sym {n a b : Int} (a0 : 0 ≤ a) (a1 : a < n) (b0 : 0 ≤ b) (b1 : b < n) : btw n b a = btw n a b := by
  unfold btw
  rcases ahd_case a0 a1 b0 b1 with ⟨h1, e1⟩ | ⟨h1, e1⟩ <;> rcases ahd_case b0 b1 a0 a1 with ⟨h2, e2⟩ | ⟨h2, e2⟩ <;> rw [e1, e2] <;> omega
theorem btw_min {n a b : Int} (a0 : 0 ≤ a) (a1 : a < n) (b0 : 0 ≤ b) (b1 : b < n) : btw n a b = min (ahd n a b) (ahd n b a) := by
  unfold btw
  rcases ahd_case a0 a1 b0 b1 with ⟨h1, e1⟩ | ⟨h1, e1⟩ <;> rcases ahd_case b0 b1 a0 a1 with ⟨h2, e2⟩ | ⟨h2, e2⟩ <;> rw [e1, e2] <;> omega
theorem ahd_sum {n a b : Int} (a0 : 0 ≤ a) (a1 : a < n) (b0 : 0 ≤ b) (b1 : b < n) : ahd n a b + ahd n b a = if a = b then 0 else n := by
  rcases ahd_case a0 a1 b0 b1 with ⟨h1, e1⟩ | ⟨h1, e1⟩ <;> rcases ahd_case b0 b1 a0 a1 with ⟨h2, e2⟩ | ⟨h2, e2⟩ <;> rw [e1, e2] <;> split <;> omega
theorem ahd_nn {n a b : Int} (h : 0 < n) : 0 ≤ ahd n a b := Int.emod_nonneg _ (by omega)
theorem ahd_lt {n a b : Int} (h : 0 < n) : ahd n a b < n := Int.emod_lt_of_pos _ h
/-- so many pieces on -/
theorem on_case {n a k : Int} (a0 : 0 ≤ a) (a1 : a < n) (k0 : 0 ≤ k) (k1 : k ≤ n) : (a + k < n ∧ (a + k) % n = a + k) ∨ (n ≤ a + k ∧ (a + k) % n = a + k - n) := by
  rcases emod_case (x := a + k) (n := n) (by omega) (by omega) (by omega) with ⟨h, e⟩ | ⟨h, h', e⟩ | ⟨h, e⟩ <;> omega
theorem off_case {n a k : Int} (a0 : 0 ≤ a) (a1 : a < n) (k0 : 0 ≤ k) (k1 : k ≤ n) : (0 ≤ a - k ∧ (a - k) % n = a - k) ∨ (a - k < 0 ∧ (a - k) % n = a - k + n) := by
  rcases emod_case (x := a - k) (n := n) (by omega) (by omega) (by omega) with ⟨h, e⟩ | ⟨h, h', e⟩ | ⟨h, e⟩ <;> omega
theorem on_step {n a k : Int} (h : 0 < n) : ((a + k) % n + 1) % n = (a + (k + 1)) % n := by rw [Int.emod_add_emod]; congr 1; omega
theorem off_step {n a k : Int} (h : 0 < n) : ((a - k) % n - 1) % n = (a - (k + 1)) % n := by
  have := Int.emod_add_emod (a - k) n (-1)
  rw [← Int.sub_eq_add_neg] at this
  rw [this]; congr 1; omega
/-- the first place ahead -/
theorem on_hit {n a b k : Int} (a0 : 0 ≤ a) (a1 : a < n) (b0 : 0 ≤ b) (b1 : b < n) (k0 : 0 ≤ k) (k1 : k < n) : (a + k) % n = b ↔ k = ahd n a b := by
  rcases on_case a0 a1 k0 (by omega) with ⟨h, e⟩ | ⟨h, e⟩ <;> rcases ahd_case a0 a1 b0 b1 with ⟨h1, e1⟩ | ⟨h1, e1⟩ <;> rw [e, e1] <;> omega
theorem off_hit {n a b k : Int} (a0 : 0 ≤ a) (a1 : a < n) (b0 : 0 ≤ b) (b1 : b < n) (k0 : 0 ≤ k) (k1 : k < n) : (a - k) % n = b ↔ k = ahd n b a := by
  rcases off_case a0 a1 k0 (by omega) with ⟨h, e⟩ | ⟨h, e⟩ <;> rcases ahd_case b0 b1 a0 a1 with ⟨h1, e1⟩ | ⟨h1, e1⟩ <;> rw [e, e1] <;> omega
/-- the word from a place on, once round -/
def rotw (s : List Nat) (k : Nat) : List Nat := s.drop k ++ s.take k
theorem rotw_len {s : List Nat} {k : Nat} (h : k ≤ s.length) : (rotw s k).length = s.length := by simp [rotw]; omega
theorem rotw_all {s : List Nat} {k : Nat} (h : s.all isPc = true) : (rotw s k).all isPc = true := List.all_eq_true.mpr fun x hx => List.all_eq_true.mp h x (by
  rcases List.mem_append.mp hx with z | z
  · exact List.mem_of_mem_drop z
  · exact List.mem_of_mem_take z)
theorem rotw_step {s : List Nat} {k j : Nat} (hk : k < s.length) (hj : j < s.length) : ∃ c, atD s (((k : Int) + j) % (s.length : Int)) = some c ∧ (rotw s k).take (j + 1) = (rotw s k).take j ++ [c] := by
  rcases on_case (n := s.length) (a := k) (k := j) (by omega) (by omega) (by omega) (by omega) with ⟨h, e⟩ | ⟨h, e⟩
  · have hg : (rotw s k)[j]? = some (s[k + j]'(by omega)) := by
      unfold rotw
      rw [List.getElem?_append_left (by simp; omega), List.getElem?_drop, List.getElem?_eq_getElem]
    exact ⟨s[k + j]'(by omega), by rw [e, show (k : Int) + j = ((k + j : Nat) : Int) by omega, atD_natp (by omega)], by rw [List.take_succ, hg]; rfl⟩
  · have hg : (rotw s k)[j]? = some (s[k + j - s.length]'(by omega)) := by
      unfold rotw
      rw [List.getElem?_append_right (by simp; omega), List.getElem?_take, if_pos (by simp; omega), ← List.getElem?_eq_getElem]
      congr 1
      simp; omega
    exact ⟨s[k + j - s.length]'(by omega), by rw [e, show (k : Int) + j - s.length = ((k + j - s.length : Nat) : Int) by omega, atD_natp (by omega)], by rw [List.take_succ, hg]; rfl⟩
/-- the end of the part between two places -/
theorem rotw_end {s : List Nat} {p : Pl} (hp : p.ok) (h : closed s) {a b : Nat} (ha : a < s.length) (hb : b < s.length) : endFrom (endFrom p (s.take a)) ((rotw s a).take (ahd s.length a b).toNat) = endFrom p (s.take b) := by
  rw [← endFrom_app]
  rcases ahd_case (n := s.length) (a := a) (b := b) (by omega) (by omega) (by omega) (by omega) with ⟨h1, e⟩ | ⟨h1, e⟩
  · rw [e, show ((b : Int) - a).toNat = b - a by omega]
    have e1 : (rotw s a).take (b - a) = (s.drop a).take (b - a) := by
      unfold rotw; rw [List.take_append_of_le_length (by simp; omega)]
    rw [e1]
    congr 1
    have := List.take_append_drop a (s.take b)
    rw [List.take_take, Nat.min_eq_left (by omega)] at this
    rw [← this]
    congr 1
    rw [List.drop_take]
  · rw [e, show ((b : Int) - a + s.length).toNat = (s.length - a) + b by omega]
    have e1 : (rotw s a).take (s.length - a + b) = s.drop a ++ s.take b := by
      unfold rotw
      rw [List.take_append, List.take_of_length_le (by simp), List.take_take]
      congr 2
      simp; omega
    rw [e1, ← List.append_assoc, List.take_append_drop, endFrom_app, closed_at h hp]
theorem usort_len : ∀ l : List Int, (usort l).length ≤ l.length
  | [] => Nat.le_refl _
  | x :: r => by
    have h1 : ∀ m : List Int, (insU x m).length ≤ m.length + 1 := by
      intro m
      induction m with
      | nil => exact Nat.le_refl _
      | cons y m ih =>
        unfold insU
        split
        · simp
        · split
          · simp
          · simp; omega
    have := h1 (usort r)
    have := usort_len r
    show (insU x (usort r)).length ≤ _
    simp; omega
theorem usort_ne {l : List Int} (h : l ≠ []) : usort l ≠ [] := by
  cases l with
  | nil => exact absurd rfl h
  | cons x r => intro z; have := (mem_usort (k := x) (l := x :: r)).mpr List.mem_cons_self; rw [z] at this; cases this
end G
set_option Elab.async false
set_option linter.all false
set_option maxRecDepth 100000
namespace G
/-! ### gaps of straight pieces, bare words -/
theorem srep_o {n : Int} {c : Nat} : srep n [c] = List.replicate n.toNat c := by
  unfold srep
  induction n.toNat with
  | zero => rfl
  | succ m ih => rw [List.replicate_succ, List.flatten_cons, ih]; rfl
def bareS (s : List Nat) : List Nat := s.filter fun c => !(c == 115)
def rowsF (w m : Int) : List Nat → List (Int × Int)
  | [] => [(w, m)]
  | c :: r => if c = 115 then rowsF w (m + 1) r else (w, m) :: rowsF ((w + (if c = 108 then 1 else -1)) % 4) 0 r
def waysF (w : Int) : List Nat → List Int
  | [] => [w]
  | c :: r => w :: waysF ((w + (if c = 108 then 1 else -1)) % 4) r
def gapsF (m : Int) : List Nat → List Int
  | [] => [m]
  | c :: r => if c = 115 then gapsF (m + 1) r else m :: gapsF 0 r
theorem bareS_s {r : List Nat} : bareS (115 :: r) = bareS r := rfl
theorem bareS_c {c : Nat} {r : List Nat} (h : c ≠ 115) : bareS (c :: r) = c :: bareS r := by unfold bareS; rw [List.filter_cons_of_pos (by simpa using h)]
theorem rows_ways : ∀ (s : List Nat) (w m : Int), (rowsF w m s).map (·.1) = waysF w (bareS s)
  | [], w, m => rfl
  | c :: r, w, m => by
    unfold rowsF
    by_cases h : c = 115
    · subst h; rw [if_pos rfl, bareS_s]; exact rows_ways r w (m + 1)
    · rw [if_neg h, bareS_c h, List.map_cons, rows_ways r]; rfl
theorem rows_gaps : ∀ (s : List Nat) (w m : Int), (rowsF w m s).map (·.2) = gapsF m s
  | [], w, m => rfl
  | c :: r, w, m => by
    unfold rowsF gapsF
    by_cases h : c = 115
    · rw [if_pos h, if_pos h]; exact rows_gaps r w (m + 1)
    · rw [if_neg h, if_neg h, List.map_cons, rows_gaps r]
theorem rows_len (s : List Nat) (w m : Int) : (rowsF w m s).length = (bareS s).length + 1 := by
  have := congrArg List.length (rows_ways s w m)
  rw [List.length_map] at this
  rw [this]
  have : ∀ (b : List Nat) (w : Int), (waysF w b).length = b.length + 1 := fun b => by
    induction b with
    | nil => intro w; rfl
    | cons c r ih => intro w; show (waysF _ r).length + 1 = _; rw [ih]; rfl
  exact this _ _
theorem ways_len (b : List Nat) (w : Int) : (waysF w b).length = b.length + 1 := by
  induction b generalizing w with
  | nil => rfl
  | cons c r ih => show (waysF _ r).length + 1 = _; rw [ih]; rfl
theorem gaps_len (s : List Nat) (m : Int) : (gapsF m s).length = (bareS s).length + 1 := by rw [← rows_gaps s 0 m, List.length_map, rows_len]
theorem bare_le (s : List Nat) : (bareS s).length ≤ s.length := List.length_filter_le ..
theorem bare_all {s : List Nat} (h : s.all isPc = true) : (bareS s).all isPc = true := List.all_eq_true.mpr fun x hx => List.all_eq_true.mp h x (List.mem_filter.mp hx).1
theorem bare_ne {s : List Nat} {c : Nat} (h : c ∈ bareS s) : c ≠ 115 := by simpa using (List.mem_filter.mp h).2
theorem bare_bare {b : List Nat} (h : ∀ c ∈ b, c ≠ 115) : bareS b = b := List.filter_eq_self.mpr fun c hc => by simpa using h c hc
theorem rows_way : ∀ (s : List Nat) (w m : Int), 0 ≤ w → w < 4 → ∀ r ∈ rowsF w m s, 0 ≤ r.1 ∧ r.1 < 4
  | [], w, m, h0, h1, r, hr => by
    have : r = (w, m) := by simpa [rowsF] using hr
    subst this; exact ⟨h0, h1⟩
  | c :: s, w, m, h0, h1, r, hr => by
    unfold rowsF at hr
    by_cases h : c = 115
    · rw [if_pos h] at hr; exact rows_way s w (m + 1) h0 h1 r hr
    · rw [if_neg h] at hr
      rcases List.mem_cons.mp hr with rfl | hr
      · exact ⟨h0, h1⟩
      · exact rows_way s _ 0 (Int.emod_nonneg _ (by omega)) (Int.emod_lt_of_pos _ (by omega)) r hr
theorem gaps_nn : ∀ (s : List Nat) (m : Int), 0 ≤ m → ∀ x ∈ gapsF m s, 0 ≤ x ∧ x ≤ m + s.length
  | [], m, h, x, hx => by
    have : x = m := by simpa [gapsF] using hx
    subst this; exact ⟨h, by simp⟩
  | c :: s, m, h, x, hx => by
    unfold gapsF at hx
    by_cases hc : c = 115
    · rw [if_pos hc] at hx
      have := gaps_nn s (m + 1) (by omega) x hx
      rw [List.length_cons]; omega
    · rw [if_neg hc] at hx
      rcases List.mem_cons.mp hx with rfl | hx
      · exact ⟨h, by omega⟩
      · have := gaps_nn s 0 (by omega) x hx
        rw [List.length_cons]; omega
theorem gaps_sum : ∀ (s : List Nat) (m : Int), (gapsF m s).sum + ((bareS s).length : Int) = m + (s.length : Int)
  | [], m => by simp [gapsF, bareS]
  | c :: s, m => by
    unfold gapsF
    by_cases hc : c = 115
    · subst hc
      rw [if_pos rfl, bareS_s, gaps_sum s (m + 1), List.length_cons]; omega
    · rw [if_neg hc, bareS_c hc, List.sum_cons, List.length_cons, List.length_cons]
      have := gaps_sum s 0
      omega
/-- a word by its gaps -/
def joinS : List Int → List Nat → List Nat
  | m :: g, c :: b => srep m [115] ++ c :: joinS g b
  | m :: _, [] => srep m [115]
  | [], _ => []
theorem join_gaps : ∀ (s : List Nat) (m : Int), 0 ≤ m → joinS (gapsF m s) (bareS s) = srep m [115] ++ s
  | [], m, _ => by simp [gapsF, bareS, joinS]
  | c :: s, m, h => by
    unfold gapsF
    by_cases hc : c = 115
    · subst hc
      rw [if_pos rfl, bareS_s, join_gaps s (m + 1) (by omega), srep_o, srep_o, show (m + 1).toNat = m.toNat + 1 by omega, List.replicate_succ', List.append_assoc]
      rfl
    · rw [if_neg hc, bareS_c hc]
      show srep m [115] ++ c :: joinS (gapsF 0 s) (bareS s) = _
      rw [join_gaps s 0 (by decide)]
      rfl
theorem gaps_rep {t : List Nat} : ∀ (n : Nat) (k : Int), gapsF k (List.replicate n 115 ++ t) = gapsF (k + n) t
  | 0, k => by simp
  | n + 1, k => by
    rw [List.replicate_succ, List.cons_append]
    show gapsF (k + 1) (List.replicate n 115 ++ t) = _
    rw [gaps_rep n]
    congr 1
    omega
theorem bare_rep {t : List Nat} : ∀ (n : Nat), bareS (List.replicate n 115 ++ t) = bareS t
  | 0 => rfl
  | n + 1 => by rw [List.replicate_succ, List.cons_append, bareS_s, bare_rep n]
theorem gaps_join : ∀ (g : List Int) (b : List Nat), g.length = b.length + 1 → (∀ x ∈ g, 0 ≤ x) → (∀ c ∈ b, c ≠ 115) → gapsF 0 (joinS g b) = g ∧ bareS (joinS g b) = b ∧ (((joinS g b).length : Nat) : Int) = b.length + g.sum
  | [], b, h, _, _ => by simp at h
  | [m], [], _, hx, _ => by
    have h0 := hx m List.mem_cons_self
    have e := gaps_rep (t := []) m.toNat 0
    have e2 := bare_rep (t := []) m.toNat
    rw [List.append_nil] at e e2
    refine ⟨?_, ?_, ?_⟩
    · show gapsF 0 (srep m [115]) = _
      rw [srep_o, e]
      show [0 + ((m.toNat : Nat) : Int)] = [m]
      congr 1; omega
    · show bareS (srep m [115]) = _
      rw [srep_o, e2]; rfl
    · show ((srep m [115]).length : Int) = _
      rw [srep_o, List.length_replicate]; simp; omega
  | m :: _ :: _, [], h, _, _ => by simp at h
  | [m], _ :: _, h, _, _ => by simp at h
  | m :: x :: g, c :: b, h, hx, hc => by
    have h0 := hx m List.mem_cons_self
    have c0 := hc c List.mem_cons_self
    obtain ⟨i1, i2, i3⟩ := gaps_join (x :: g) b (by simpa using h) (fun y hy => hx y (List.mem_cons_of_mem _ hy)) (fun y hy => hc y (List.mem_cons_of_mem _ hy))
    have e : joinS (m :: x :: g) (c :: b) = srep m [115] ++ c :: joinS (x :: g) b := rfl
    rw [e, srep_o]
    refine ⟨?_, ?_, ?_⟩
    · rw [gaps_rep]
      show (if c = 115 then _ else _) = _
      rw [if_neg c0, i1]
      congr 1; omega
    · rw [bare_rep, bareS_c c0, i2]
    · rw [List.length_append, List.length_cons, List.length_replicate, List.length_cons, List.sum_cons]
      push_cast
      omega
theorem join_all : ∀ (g : List Int) (b : List Nat), b.all isPc = true → (joinS g b).all isPc = true
  | [], _, _ => rfl
  | m :: g, [], _ => srep_all rfl
  | m :: g, c :: b, h => by
    rw [List.all_cons, Bool.and_eq_true] at h
    show (srep m [115] ++ c :: joinS g b).all isPc = true
    rw [List.all_append, srep_all rfl, List.all_cons, h.1, join_all g b h.2]; rfl
/-- the joined texts -/
def bitsS (g : List Int) (b : List Nat) : List (List Nat) := List.zipWith (fun m c => srep m [115] ++ [c]) g b
theorem join_bits : ∀ (g : List Int) (b : List Nat), g.length = b.length + 1 → ∃ l, g.getLast? = some l ∧ g[b.length]? = some l ∧ joinS g b = (bitsS g b).flatten ++ srep l [115]
  | [], b, h => by simp at h
  | [m], [], _ => ⟨m, rfl, rfl, by simp [joinS, bitsS]⟩
  | m :: _ :: _, [], h => by simp at h
  | [m], _ :: _, h => by simp at h
  | m :: x :: g, c :: b, h => by
    obtain ⟨l, h1, h3, h2⟩ := join_bits (x :: g) b (by simpa using h)
    refine ⟨l, by rw [List.getLast?_cons_cons]; exact h1, by simpa using h3, ?_⟩
    show srep m [115] ++ c :: joinS (x :: g) b = _
    rw [h2]
    show _ = ((srep m [115] ++ [c]) :: bitsS (x :: g) b).flatten ++ _
    rw [List.flatten_cons]
    simp
/-- sums of like ways -/
def cntF (rows : List (Int × Int)) (k : Int) : Int := ((rows.filter fun r => r.1 == k).map (·.2)).sum
theorem cntF_cons {r : Int × Int} {rows : List (Int × Int)} {k : Int} : cntF (r :: rows) k = (if r.1 = k then r.2 else 0) + cntF rows k := by
  unfold cntF
  rw [List.filter_cons]
  by_cases h : r.1 = k
  · rw [if_pos (by simpa using h), if_pos h, List.map_cons, List.sum_cons]
  · rw [if_neg (by simpa using h), if_neg h]; omega
def stkF (rows : List (Int × Int)) : Int := ((rows.filter fun r => (rows.map (·.1)).count r.1 == 1).map (·.2)).sum
end G
set_option Elab.async false
set_option linter.all false
set_option maxRecDepth 100000
namespace G
/-! ### the combinators' rules as true steps (no rfl rules: the check of many rfl steps at once may unfold the wrong side) -/
section
variable {P : D → Prop} {PB : Bool → Prop} {PL : List D → Prop} {E : DE} {env : Env} {S T : SM} {m n : EM} {ms : Env → M (List D)} {t t2 : Env → M Bool} {i j l np k : Nat} {A B : Prop} {d e : D} {ds r : List D}
def cif (c : Bool) (A B : Prop) : Prop := match c with | true => A | false => B
theorem cif_t : cif true A B = A := id rfl
theorem cif_f : cif false A B = B := id rfl
theorem cif_congr {c c' : Bool} (h : c = c') : cif c A B = cif c' A B := by rw [h]
def varQ (s : Sl) (P : D → Prop) : Prop := match s with | .fz d => P d | _ => False
def varB (s : Sl) (P : D → Prop) : Prop := match s with | .fz d => P d | .ow d => P d | .un => False
theorem varQ_fz : varQ (.fz d) P = P d := id rfl
theorem varB_fz : varB (.fz d) P = P d := id rfl
theorem varB_ow : varB (.ow d) P = P d := id rfl
theorem n_eVar : eVar i env P = varQ (getS env i) P := id rfl
theorem n_eVarB : eVarB i env P = varB (getS env i) P := id rfl
theorem n_eC : eC d env P = P d := id rfl
theorem n_eCall {f : List D → M D} : eCall f ms env P = ms env fun ds => f ds P := id rfl
theorem n_aCons {ms : Env → M (List D)} : aCons m ms env PL = m env fun d => ms env fun ds => PL (d :: ds) := id rfl
theorem n_aNil : aNil env PL = PL [] := id rfl
theorem n_eBin {f : D → D → M D} : eBin f m n env P = m env fun x => n env fun y => f x y P := id rfl
theorem n_eUn {f : D → M D} : eUn f m env P = m env fun x => f x P := id rfl
theorem n_eTup : eTup ms env P = ms env fun ds => ds.length ≤ lim ∧ P (.tup ds) := id rfl
theorem n_eLst : eLst ms env P = ms env fun ds => ds.length ≤ lim ∧ P (.lst ds) := id rfl
theorem n_eIf : eIf t m n env P = t env fun c => cif c (m env P) (n env P) := id rfl
theorem n_eAnd : eAnd m n env P = m env (isB fun c => cif c (n env P) (P (.bl false))) := id rfl
theorem n_eOr : eOr m n env P = m env (isB fun c => cif c (P (.bl true)) (n env P)) := id rfl
theorem n_eNot : eNot m env P = m env (isB fun c => P (.bl (!c))) := id rfl
theorem n_eChain {f g : D → D → M D} {o : EM} : eChain f g m n o env P = m env fun x => n env fun y => f x y (isB fun k => cif k (o env fun z => g y z P) (P (.bl false))) := id rfl
theorem n_tVal : tVal m env PB = m env (isB PB) := id rfl
theorem n_tNot : tNot t env PB = t env fun c => PB (!c) := id rfl
theorem n_tAnd : tAnd t t2 env PB = t env fun c => cif c (t2 env PB) (PB false) := id rfl
theorem n_tOr : tOr t t2 env PB = t env fun c => cif c (PB true) (t2 env PB) := id rfl
theorem n_tTrue : tTrue env PB = PB true := id rfl
theorem n_sSeq : sSeq S T E env = S { E with nx := T E } env := id rfl
theorem n_sIf : sIf t S T E env = t env fun c => cif c (S E env) (T E env) := id rfl
theorem n_sNil : sNil E env = E.nx env := id rfl
theorem n_sRet : sRet m E env = m env E.rt := id rfl
theorem n_sExpr : sExpr m E env = m env fun _ => E.nx env := id rfl
theorem n_sBreak : sBreak E env = E.bk env := id rfl
theorem n_sCont : sCont E env = E.ct env := id rfl
theorem n_sSet : sSet i m E env = m env fun d => E.nx (setS env i (.fz d)) := id rfl
theorem n_sSetO : sSetO i m E env = m env fun d => E.nx (setS env i (.ow d)) := id rfl
theorem n_sSetZ : sSetZ i m E env = m env fun d => E.nx (frzS (setS env i (.ow d)) i) := id rfl
theorem n_sFrz : sFrz i S E env = S E (frzS env i) := id rfl
theorem n_sFor {it : Env → M (List D)} {g : GM} : sFor it g S E env = it env fun ds => forW g S ds E env := id rfl
theorem n_gN : gN i d env PE' = PE' (setS env i (.fz d)) := id rfl
def pq2 (F : D → D → Prop) : List D → Prop := fun ds => match ds with | [d, e] => F d e | _ => False
theorem pq2_e {F : D → D → Prop} : pq2 F [d, e] = F d e := id rfl
theorem n_sPar : sPar i j ms E env = ms env (pq2 fun d e => E.nx (setS (setS env i (.fz d)) j (.fz e))) := id rfl
theorem n_sParFG : sParFG i j m n E env = m env fun d => n env fun e => E.nx (setS (setS env i (.ow d)) j (.fz e)) := id rfl
theorem n_sParGF : sParGF i j m n E env = m env fun d => n env fun e => E.nx (setS (setS env i (.fz d)) j (.ow e)) := id rfl
theorem n_sParFF : sParFF i j m n E env = m env fun d => n env fun e => E.nx (setS (setS env i (.ow d)) j (.ow e)) := id rfl
theorem n_sP3 {k1 k2 k3 : Bool} {a b c : EM} : sP3 k1 k2 k3 i j l a b c E env = a env fun d => b env fun e => c env fun f => E.nx (setS (setS (setS env i (slK k1 d)) j (slK k2 e)) l (slK k3 f)) := id rfl
theorem n_sAsg {g : GM} : sAsg g m E env = m env fun d => g d env E.nx := id rfl
theorem n_gTn_t {g : GMs} {Q : Env → Prop} : gTn np g (.tup ds) env Q = (ds.length = np ∧ g ds env Q) := id rfl
theorem n_gTn_k {g : GMs} {Q : Env → Prop} : gTn np g (.kt ds) env Q = (ds.length = np ∧ g ds env Q) := id rfl
theorem n_gsCons {g : GM} {gs : GMs} {Q : Env → Prop} : gsCons g gs (d :: r) env Q = g d env fun env' => gs r env' Q := id rfl
theorem n_gsNil {Q : Env → Prop} : gsNil [] env Q = Q env := id rfl
theorem n_eLC {vs : List Nat} {it : Env → M (List D)} {g : GM} : eLC vs it g t m env P = it env fun ds => ds.length ≤ lim ∧ lcW g t m (wipeE env vs) ds fun ys => P (.lst ys) := id rfl
theorem n_lcW0 {g : GM} : lcW g t m env [] PL = PL [] := id rfl
theorem n_lcW1 {g : GM} : lcW g t m env (d :: r) PL = g d env fun env2 => t env2 fun c => cif c (m env2 fun y => lcW g t m env r fun ys => PL (y :: ys)) (lcW g t m env r PL) := id rfl
theorem n_iSeq : iSeq m env PL = m env fun d => seqD d PL := id rfl
theorem n_seq_s {s : List Nat} : seqD (.str s) PL = PL (signsD s) := id rfl
theorem n_seq_l : seqD (.lst ds) PL = PL ds := id rfl
theorem n_seq_t : seqD (.tup ds) PL = PL ds := id rfl
theorem n_seq_k : seqD (.kt ds) PL = PL ds := id rfl
def rq1 (PL : List D → Prop) : List D → Prop := fun ds => match ds with | [.int j] => far j ∧ PL (rngD 0 j.toNat) | _ => False
def rq2 (PL : List D → Prop) : List D → Prop := fun ds => match ds with | [.int i, .int j] => (far i ∧ far j) ∧ PL (rngD i (j - i).toNat) | _ => False
theorem rq1_e {a : Int} : rq1 PL [.int a] = (far a ∧ PL (rngD 0 a.toNat)) := id rfl
theorem rq2_e {a b : Int} : rq2 PL [.int a, .int b] = ((far a ∧ far b) ∧ PL (rngD a (b - a).toNat)) := id rfl
theorem n_iRng1m : iRng1m ms env PL = ms env (rq1 PL) := id rfl
theorem n_iRng2m : iRng2m ms env PL = ms env (rq2 PL) := id rfl
theorem n_eSl {f : D → Option Int → Option Int → M D} {lo hi : Env → M (Option Int)} : eSl f m lo hi env P = m env fun d => lo env fun l => hi env fun h => f d l h P := id rfl
theorem n_oNone {PO : Option Int → Prop} : oNone env PO = PO none := id rfl
theorem n_oSome {PO : Option Int → Prop} : oSome m env PO = m env (isI fun i => PO (some i)) := id rfl
theorem n_eMeth {T : String} {f : D → List D → M D} {o : EM} : eMeth T f o ms env P = o env fun d => hasT T d ∧ ms env fun ds => f d ds P := id rfl
theorem n_eRev : eRev m env P = m env fun d => dRev d P := id rfl
def apQ (s : Sl) (F : List D → Prop) : Prop := match s with | .ow (.lst ds) => F ds | _ => False
theorem apQ_e {F : List D → Prop} : apQ (.ow (.lst ds)) F = F ds := id rfl
theorem n_sAppend : sAppend i m E env = apQ (getS env i) fun ds => m env fun d => ds.length < lim ∧ E.nx (setS env i (.ow (.lst (ds ++ [d])))) := by
  unfold sAppend apQ
  cases getS env i with
  | un => rfl
  | fz d => rfl
  | ow d => cases d <;> rfl
theorem n_sAug {f : D → D → M D} : sAug i f m E env = varQ (getS env i) fun d => m env fun e => f d e fun r => E.nx (setS env i (.fz r)) := by
  unfold sAug varQ
  cases getS env i <;> rfl
theorem n_fnM : fnM np k S ds P = (ds.length = np ∧ S { nx := fun _ => P .non, rt := P, bk := fun _ => False, ct := fun _ => False } (startE k ds)) := id rfl
theorem n_ret : ret d P = P d := id rfl
theorem n_ask {X : M D} : ask A X P = (A ∧ X P) := id rfl
theorem n_dTuple : dTuple [.lst ds] P = P (.tup ds) := id rfl
end
end G
set_option Elab.async false
set_option linter.all false
set_option maxRecDepth 100000
namespace G
/-! ### loops and comprehensions over what is mapped -/
theorem rngD_cons {lo : Int} {n : Nat} : rngD lo (n + 1) = .int lo :: rngD (lo + 1) n := by
  unfold rngD
  rw [List.range_succ_eq_map, List.map_cons, List.map_map]
  congr 1
  · congr 1; omega
  · refine List.map_congr_left fun i _ => ?_
    show D.int (lo + ((i + 1 : Nat) : Int)) = _
    congr 1; omega
theorem forW_each {α : Type} {g : GM} {S : SM} {E : DE} {env : Env} (e : α → D) (I : List α → List α → Env → Prop) (xs : List α) (h0 : I [] xs env)
    (hs : ∀ (done : List α) (x : α) (rest : List α) (env : Env) (K : Env → Prop), xs = done ++ x :: rest → I done (x :: rest) env → (∀ e', I (done ++ [x]) rest e' → K e') → g (e x) env fun env' => S { nx := K, ct := K, bk := E.nx, rt := E.rt } env')
    (hd : ∀ env, I xs [] env → E.nx env) : forW g S (xs.map e) E env := by
  refine forW_ind (fun ds env => ∃ done rest, ds = rest.map e ∧ xs = done ++ rest ∧ I done rest env) ?_ ?_ _ _ ⟨[], xs, rfl, rfl, h0⟩
  · rintro env ⟨done, rest, e1, e2, hI⟩
    have er : rest = [] := by cases rest with
      | nil => rfl
      | cons _ _ => cases e1
    subst er
    rw [List.append_nil] at e2
    subst e2
    exact hd env hI
  · rintro d ds env K ⟨done, rest, e1, e2, hI⟩ hK
    cases rest with
    | nil => cases e1
    | cons x r =>
      rw [List.map_cons] at e1
      injection e1 with e3 e4
      subst e3 e4
      exact hs done x r env K e2 hI fun e' h => hK e' ⟨done ++ [x], r, rfl, by rw [e2]; simp, h⟩
theorem forW_rng {g : GM} {S : SM} {E : DE} {env : Env} {lo : Int} {n : Nat} (I : Nat → Env → Prop) (h0 : I 0 env)
    (hs : ∀ (i : Nat) (env : Env) (K : Env → Prop), i < n → I i env → (∀ e', I (i + 1) e' → K e') → g (.int (lo + i)) env fun env' => S { nx := K, ct := K, bk := E.nx, rt := E.rt } env')
    (hd : ∀ env, I n env → E.nx env) : forW g S (rngD lo n) E env := by
  refine forW_ind (fun ds env => ∃ i, i ≤ n ∧ ds = rngD (lo + i) (n - i) ∧ I i env) ?_ ?_ _ _ ⟨0, Nat.zero_le _, by simp, h0⟩
  · rintro env ⟨i, hi, e1, hI⟩
    have : i = n := by
      have := congrArg List.length e1
      rw [rngD_len] at this
      simp at this; omega
    subst this
    exact hd env hI
  · rintro d ds env K ⟨i, hi, e1, hI⟩ hK
    have hl : i < n := by
      have := congrArg List.length e1
      rw [rngD_len, List.length_cons] at this; omega
    rw [show n - i = (n - (i + 1)) + 1 by omega, rngD_cons] at e1
    injection e1 with e2 e3
    subst e2 e3
    exact hs i env K hl hI fun e' h => hK e' ⟨i + 1, hl, by congr 1; omega, h⟩
theorem lc_each {α : Type} {g : GM} {t : Env → M Bool} {m : EM} {env : Env} {Q : List D → Prop} (e : α → D) (p : α → Bool) (f : α → D) : ∀ (xs : List α), (∀ x ∈ xs, ∀ (K : D → Prop) (K' : Prop), (p x = true → K (f x)) → (p x = false → K') → g (e x) env fun env2 => t env2 fun c => match c with | true => m env2 K | false => K') → Q ((xs.filter p).map f) → lcW g t m env (xs.map e) Q := by
  intro xs
  induction xs generalizing Q with
  | nil => intro _ h; exact h
  | cons d ds ih =>
    intro hs h
    refine hs d List.mem_cons_self _ _ (fun hp => ?_) (fun hp => ?_)
    · refine ih (fun d hd => hs d (List.mem_cons_of_mem _ hd)) ?_
      rw [List.filter_cons_of_pos hp] at h
      exact h
    · refine ih (fun d hd => hs d (List.mem_cons_of_mem _ hd)) ?_
      rw [List.filter_cons_of_neg (by rw [hp]; exact Bool.false_ne_true)] at h
      exact h
theorem lc_eachm {α : Type} {g : GM} {m : EM} {env : Env} {Q : List D → Prop} (e : α → D) (f : α → D) (xs : List α) (hs : ∀ x ∈ xs, ∀ (K : D → Prop), K (f x) → g (e x) env fun env2 => m env2 K) (h : Q (xs.map f)) : lcW g tTrue m env (xs.map e) Q := by
  refine lc_each e (fun _ => true) f xs (fun d hd K K' h1 _ => hs d hd K (h1 rfl)) ?_
  rwa [List.filter_eq_self.mpr (fun _ _ => rfl)]
theorem filt_t {α : Type} (l : List α) : l.filter (fun _ => true) = l := List.filter_eq_self.mpr fun _ _ => rfl
theorem okD_ints {n : Nat} {l : List Int} : (l.map D.int).all (okD n) = true := by
  rw [List.all_map]
  exact List.all_eq_true.mpr fun x _ => by simp [okD_int]
theorem okD_lints {n : Nat} {l : List Int} : okD (n + 1) (.lst (l.map D.int)) = true := by rw [okD]; exact okD_ints
theorem okD_tints {n : Nat} {l : List Int} : okD (n + 1) (.tup (l.map D.int)) = true := by rw [okD]; exact okD_ints
theorem eqvL_ints : ∀ {l m : List Int}, eqvL (l.map D.int) (m.map D.int) = (l == m)
  | [], [] => rfl
  | [], _ :: _ => rfl
  | _ :: _, [] => rfl
  | x :: l, y :: m => by
    show (eqv (.int x) (.int y) && eqvL (l.map D.int) (m.map D.int)) = _
    rw [eqvL_ints]; rfl
theorem q_eq_lints {l m : List Int} {Q : D → Prop} (h : Q (.bl (l == m))) : dEq (.lst (l.map D.int)) (.lst (m.map D.int)) Q := by
  refine ⟨⟨okD_lints, okD_lints⟩, ?_⟩
  rw [show eqv (.lst (l.map D.int)) (.lst (m.map D.int)) = eqvL (l.map D.int) (m.map D.int) from by rw [eqv], eqvL_ints]
  exact h
theorem q_ne_lints {l m : List Int} {Q : D → Prop} (h : Q (.bl (!(l == m)))) : dNe (.lst (l.map D.int)) (.lst (m.map D.int)) Q := by
  refine ⟨⟨okD_lints, okD_lints⟩, ?_⟩
  rw [show eqv (.lst (l.map D.int)) (.lst (m.map D.int)) = eqvL (l.map D.int) (m.map D.int) from by rw [eqv], eqvL_ints]
  exact h
theorem q_eq_tints {l m : List Int} {Q : D → Prop} (h : Q (.bl (l == m))) : dEq (.tup (l.map D.int)) (.tup (m.map D.int)) Q := by
  refine ⟨⟨okD_tints, okD_tints⟩, ?_⟩
  rw [show eqv (.tup (l.map D.int)) (.tup (m.map D.int)) = eqvL (l.map D.int) (m.map D.int) from by rw [eqv], eqvL_ints]
  exact h
theorem q_ne_tints {l m : List Int} {Q : D → Prop} (h : Q (.bl (!(l == m)))) : dNe (.tup (l.map D.int)) (.tup (m.map D.int)) Q := by
  refine ⟨⟨okD_tints, okD_tints⟩, ?_⟩
  rw [show eqv (.tup (l.map D.int)) (.tup (m.map D.int)) = eqvL (l.map D.int) (m.map D.int) from by rw [eqv], eqvL_ints]
  exact h
theorem q_max2 {a b : Int} {Q : D → Prop} : dMax [.int a, .int b] Q = Q (.int (max a b)) := by
  show Q (.int (if b > a then b else a)) = _
  rw [show (if b > a then b else a) = max a b by split <;> omega]
theorem q_min2 {a b : Int} {Q : D → Prop} : dMin [.int a, .int b] Q = Q (.int (min a b)) := by
  show Q (.int (if b < a then b else a)) = _
  rw [show (if b < a then b else a) = min a b by split <;> omega]
theorem q_maxl {l : List Int} {Q : D → Prop} : dMax [.lst (l.map D.int)] Q = (l ≠ [] ∧ Q (.int (lmax l))) := by
  show (match intsD (l.map D.int) with | some bs => bs ≠ [] ∧ Q (.int (lmax bs)) | none => False) = _
  rw [intsD_map]
theorem q_minl {l : List Int} {Q : D → Prop} : dMin [.lst (l.map D.int)] Q = (l ≠ [] ∧ Q (.int (lmin l))) := by
  show (match intsD (l.map D.int) with | some bs => bs ≠ [] ∧ Q (.int (lmin bs)) | none => False) = _
  rw [intsD_map]
theorem q_suml {l : List Int} {Q : D → Prop} : dSumA [.lst (l.map D.int)] Q = Q (.int l.sum) := by
  unfold dSumA
  simp only [intsD_map]
theorem at_map {α : Type} {f : α → D} {l : List α} {i : Nat} (h : i < l.length) : atD (l.map f) (i : Int) = some (f l[i]) := by
  rw [atD_natp (by rw [List.length_map]; exact h), List.getElem_map]
theorem at_mapl {α : Type} {f : α → D} {l : List α} (h : l ≠ []) : atD (l.map f) (-1) = some (f (l.getLast h)) := atD_last (by rw [List.getLast?_map, List.getLast?_eq_some_getLast h]; rfl)
theorem zipD_map {α β : Type} {f : α → D} {g : β → D} : ∀ (xs : List α) (ys : List β), zipD (xs.map f) (ys.map g) = (xs.zip ys).map fun z => .tup [f z.1, g z.2]
  | [], _ => rfl
  | _ :: _, [] => rfl
  | x :: xs, y :: ys => by
    have ih := zipD_map (f := f) (g := g) xs ys
    unfold zipD at ih ⊢
    show D.tup [f x, g y] :: List.zipWith _ _ _ = _
    rw [ih]; rfl
end G
set_option Elab.async false
set_option linter.all false
set_option maxRecDepth 100000
namespace G
open PySem PySem.W
/-! ### the least one of a list of data -/
def minF {α : Type} (lt : α → α → Bool) (x : α) (xs : List α) : α := xs.foldl (fun a y => if lt y a then y else a) x
theorem minF_mem {α : Type} {lt : α → α → Bool} : ∀ (xs : List α) (x : α), minF lt x xs ∈ x :: xs := by
  intro xs
  unfold minF
  induction xs with
  | nil => intro x; exact List.mem_singleton.mpr rfl
  | cons y r ih =>
    intro x
    rw [List.foldl_cons]
    by_cases h : lt y x = true
    · rw [if_pos h]; exact List.mem_cons_of_mem _ (ih y)
    · rw [if_neg h]
      rcases List.mem_cons.mp (ih x) with e | e
      · rw [e]; exact List.mem_cons_self
      · exact List.mem_cons_of_mem _ (List.mem_cons_of_mem _ e)
/-- a key by which the order is graded is least at the least one -/
theorem minF_le {α : Type} {lt : α → α → Bool} (k : α → Int) (h1 : ∀ x y, lt x y = true → k x ≤ k y) (h2 : ∀ x y, lt x y = false → k y ≤ k x) : ∀ (xs : List α) (x : α), ∀ y ∈ x :: xs, k (minF lt x xs) ≤ k y := by
  intro xs
  unfold minF
  induction xs with
  | nil => intro x y hy; rw [List.mem_singleton.mp hy]; exact Int.le_refl _
  | cons z r ih =>
    intro x y hy
    rw [List.foldl_cons]
    cases h : lt z x with
    | true =>
      rw [if_pos rfl]
      have i1 := ih z
      rcases List.mem_cons.mp hy with e | hy
      · rw [e]; exact Int.le_trans (i1 z List.mem_cons_self) (h1 _ _ h)
      · exact i1 y hy
    | false =>
      rw [if_neg (by decide)]
      have i1 := ih x
      rcases List.mem_cons.mp hy with e | hy
      · rw [e]; exact i1 x List.mem_cons_self
      · rcases List.mem_cons.mp hy with e | hy
        · rw [e]; exact Int.le_trans (i1 x List.mem_cons_self) (h2 _ _ h)
        · exact i1 y (List.mem_cons_of_mem _ hy)
def ltE {α : Type} (e : α → D) (x y : α) : Bool := dataLt (toP (e x)) (toP (e y))
def minO {α : Type} (e : α → D) : List α → Option α
  | [] => none
  | x :: xs => some (minF (ltE e) x xs)
def maxO {α : Type} (e : α → D) : List α → Option α
  | [] => none
  | x :: xs => some (minF (fun x y => ltE e y x) x xs)
structure Enc {α : Type} (e : α → D) : Prop where
  ok : ∀ x, okD 59 (e x) = true
  al : ∀ x y, alike (toP (e x)) (toP (e y)) = true
  nn : ∀ x, (match e x with | .non => false | _ => true) = true
  inj : ∀ x y, toP (e x) = toP (e y) → e x = e y
theorem minD_map {α : Type} (e : α → D) : ∀ (xs : List α) (x : α), minD (toP (e x)) ((xs.map e).map toP) = toP (e (minF (ltE e) x xs)) := by
  intro xs
  unfold minD minF
  induction xs with
  | nil => intro x; rfl
  | cons y r ih =>
    intro x
    rw [List.map_cons, List.map_cons, List.foldl_cons, List.foldl_cons]
    by_cases h : dataLt (toP (e y)) (toP (e x)) = true
    · rw [if_pos h, if_pos (show ltE e y x = true from h)]; exact ih y
    · rw [if_neg h, if_neg (show ¬ ltE e y x = true from h)]; exact ih x
theorem maxD_map {α : Type} (e : α → D) : ∀ (xs : List α) (x : α), maxD (toP (e x)) ((xs.map e).map toP) = toP (e (minF (fun x y => ltE e y x) x xs)) := by
  intro xs
  unfold maxD minF
  induction xs with
  | nil => intro x; rfl
  | cons y r ih =>
    intro x
    rw [List.map_cons, List.map_cons, List.foldl_cons, List.foldl_cons]
    by_cases h : dataLt (toP (e x)) (toP (e y)) = true
    · rw [if_pos h, if_pos (show ltE e x y = true from h)]; exact ih y
    · rw [if_neg h, if_neg (show ¬ ltE e x y = true from h)]; exact ih x
theorem enc_cond {α : Type} {e : α → D} (E : Enc e) (l : List α) : (l.map e).all (okD 59) = true ∧ alikeD (l.map e) = true ∧ (l.map e).all (fun d => match d with | .non => false | _ => true) = true := by
  refine ⟨?_, ?_, ?_⟩
  · rw [List.all_map]; exact List.all_eq_true.mpr fun x _ => E.ok x
  · refine List.all_eq_true.mpr fun d hd => List.all_eq_true.mpr fun d2 hd2 => ?_
    obtain ⟨x, _, rfl⟩ := List.mem_map.mp hd
    obtain ⟨y, _, rfl⟩ := List.mem_map.mp hd2
    exact E.al x y
  · rw [List.all_map]; exact List.all_eq_true.mpr fun x _ => E.nn x
theorem q_minE {α : Type} {e : α → D} (E : Enc e) {l : List α} {m : α} {Q : D → Prop} (hm : minO e l = some m) (k : Q (e m)) : dMinD [.lst (l.map e)] Q := by
  cases l with
  | nil => cases hm
  | cons x xs =>
    cases hm
    refine ⟨enc_cond E (x :: xs), fun d hd h => ?_⟩
    rw [minD_map] at h
    obtain ⟨y, _, rfl⟩ := List.mem_map.mp (show d ∈ (x :: xs).map e from hd)
    rw [E.inj _ _ h]
    exact k
theorem q_maxE {α : Type} {e : α → D} (E : Enc e) {l : List α} {m : α} {Q : D → Prop} (hm : maxO e l = some m) (k : Q (e m)) : dMaxD [.lst (l.map e)] Q := by
  cases l with
  | nil => cases hm
  | cons x xs =>
    cases hm
    refine ⟨enc_cond E (x :: xs), fun d hd h => ?_⟩
    rw [maxD_map] at h
    obtain ⟨y, _, rfl⟩ := List.mem_map.mp (show d ∈ (x :: xs).map e from hd)
    rw [E.inj _ _ h]
    exact k
theorem q_maxEt {α : Type} {e : α → D} (E : Enc e) {l : List α} {m : α} {Q : D → Prop} (hm : maxO e l = some m) (k : Q (e m)) : dMaxD [.tup (l.map e)] Q := by
  cases l with
  | nil => cases hm
  | cons x xs =>
    cases hm
    refine ⟨enc_cond E (x :: xs), fun d hd h => ?_⟩
    rw [maxD_map] at h
    obtain ⟨y, _, rfl⟩ := List.mem_map.mp (show d ∈ (x :: xs).map e from hd)
    rw [E.inj _ _ h]
    exact k
theorem minO_mem {α : Type} {e : α → D} {l : List α} {m : α} (h : minO e l = some m) : m ∈ l := by
  cases l with
  | nil => cases h
  | cons x xs => cases h; exact minF_mem _ _
theorem minO_some {α : Type} {e : α → D} {l : List α} (h : l ≠ []) : ∃ m, minO e l = some m := by
  cases l with
  | nil => exact absurd rfl h
  | cons x xs => exact ⟨_, rfl⟩
theorem enc_int : Enc D.int := ⟨fun _ => okD_int, fun _ _ => by simp [toP, alike], fun _ => rfl, fun x y h => by simp only [toP] at h; injection h with h; rw [h]⟩
theorem enc_str : Enc D.str := ⟨fun _ => okD_str, fun _ _ => by simp [toP, alike], fun _ => rfl, fun x y h => by
  simp only [toP] at h; injection h with h; injection h with h
  have := congrArg Array.toList h
  simp at this; rw [this]⟩
abbrev prD2 (p : Int × Int) : D := .tup [.int p.1, .int p.2]
theorem enc_pair : Enc prD2 := ⟨fun _ => by simp [prD2, okD, okD_int], fun _ _ => by simp [prD2, toP, toPs, alike, alikeAll], fun _ => rfl, fun x y h => by
  simp only [prD2, toP, toPs] at h
  injection h with h
  injection h with h1 h2
  injection h1 with h1
  injection h2 with h2 _
  injection h2 with h2
  obtain ⟨a, b⟩ := x
  obtain ⟨c, d⟩ := y
  simp only at h1 h2
  rw [h1, h2]⟩
abbrev rowI (p : Int × List Int) : D := .tup [.int p.1, .tup (p.2.map .int)]
theorem toPs_ints (l : List Int) : toPs (l.map D.int) = l.map PyData.int := by rw [toPs_map, List.map_map]; rfl
theorem ints_inj : ∀ {l m : List Int}, l.map PyData.int = m.map PyData.int → l = m
  | [], [], _ => rfl
  | [], _ :: _, h => by cases h
  | _ :: _, [], h => by cases h
  | x :: l, y :: m, h => by
    rw [List.map_cons, List.map_cons] at h
    injection h with h1 h2
    injection h1 with h1
    rw [h1, ints_inj h2]
theorem enc_row : Enc rowI := ⟨fun _ => by simp [rowI, okD, okD_int], fun x y => by
    simp only [rowI, toP, toPs, toPs_ints, alike, alikeAll, alike_ints, Bool.and_true], fun _ => rfl, fun x y h => by
  simp only [rowI, toP, toPs, toPs_ints] at h
  injection h with h
  injection h with h1 h2
  injection h1 with h1
  injection h2 with h2 _
  injection h2 with h2
  obtain ⟨a, b⟩ := x
  obtain ⟨c, d⟩ := y
  simp only at h1 h2
  rw [h1, ints_inj h2]⟩
theorem ltE_key {α : Type} {e : α → D} {k : α → Int} {f : α → D} (he : ∀ x, e x = .tup [.int (k x), f x]) (al : ∀ x y, alike (toP (f x)) (toP (f y)) = true) : (∀ x y, ltE e x y = true → k x ≤ k y) ∧ (∀ x y, ltE e x y = false → k y ≤ k x) := by
  have key : ∀ x y, ltE e x y = if k x = k y then (if PyData.eqv (toP (f x)) (toP (f y)) = true then false else dataLt (toP (f x)) (toP (f y))) else decide (k x < k y) := fun x y => by
    unfold ltE
    rw [he x, he y]
    simp only [toP, toPs]
    rw [dataLt_pair (by simp [alike]) (al x y), dataLt_int]
    have : PyData.eqv (.int (k x)) (.int (k y)) = decide (k x = k y) := by simp [PyData.eqv]; rfl
    rw [this]
    by_cases c : k x = k y
    · rw [if_pos c, if_pos (decide_eq_true c)]
    · rw [if_neg c, if_neg (by rw [decide_eq_false c]; decide)]
  constructor
  · intro x y h
    rw [key] at h
    by_cases c : k x = k y
    · omega
    · rw [if_neg c] at h; have := of_decide_eq_true h; omega
  · intro x y h
    rw [key] at h
    by_cases c : k x = k y
    · omega
    · rw [if_neg c] at h; have := of_decide_eq_false h; omega
theorem minO_le {α : Type} {e : α → D} {k : α → Int} {f : α → D} (he : ∀ x, e x = .tup [.int (k x), f x]) (al : ∀ x y, alike (toP (f x)) (toP (f y)) = true) {l : List α} {m : α} (h : minO e l = some m) : ∀ y ∈ l, k m ≤ k y := by
  obtain ⟨h1, h2⟩ := ltE_key he al
  cases l with
  | nil => cases h
  | cons x xs => cases h; exact minF_le k h1 h2 xs x
theorem max_ints {x : Int} {xs : List Int} : maxO D.int (x :: xs) = some (lmax (x :: xs)) := by
  show some _ = some _
  congr 1
  have e1 := maxD_map D.int xs x
  have e2 := maxD_ints x xs
  rw [List.map_map, show (toP ∘ D.int) = PyData.int from rfl, show toP (.int x) = PyData.int x by rw [toP], e2] at e1
  have : PyData.int (xs.foldl max x) = PyData.int (minF (fun x y => ltE D.int y x) x xs) := by rw [e1, toP]
  injection this with this
  exact this.symm
end G
set_option Elab.async false
set_option linter.all false
set_option maxRecDepth 100000
namespace G
/-! ### turned words, periods, roots -/
def ix (s : List Nat) (i : Nat) : Nat := s.getD (i % s.length) 0
def per (s : List Nat) (k : Nat) : Prop := ∀ i, ix s (i + k) = ix s i
theorem per_len (s : List Nat) : per s s.length := fun i => by unfold ix; rw [Nat.add_mod_right]
theorem per_sub {s : List Nat} {a b : Nat} (ha : per s a) (hb : per s b) (h : b ≤ a) : per s (a - b) := fun i => by
  have h1 := ha i
  have h2 := hb (i + (a - b))
  rw [show i + (a - b) + b = i + a by omega] at h2
  rw [← h2, h1]
theorem per_mul {s : List Nat} {a : Nat} (ha : per s a) : ∀ m, per s (m * a)
  | 0 => fun i => by rw [Nat.zero_mul]; rfl
  | m + 1 => fun i => by rw [Nat.succ_mul, ← Nat.add_assoc, ha, per_mul ha m]
theorem per_mod {s : List Nat} {a b : Nat} (ha : per s a) (hb : per s b) : per s (a % b) := by
  have := per_sub ha (per_mul hb (a / b)) (Nat.div_mul_le_self a b)
  rwa [show a - a / b * b = a % b by have := Nat.div_add_mod a b; rw [Nat.mul_comm] at this; omega] at this
theorem ix_lt {s : List Nat} {i : Nat} (h : i < s.length) : s[i]? = some (ix s i) := by
  unfold ix
  rw [Nat.mod_eq_of_lt h, List.getD_eq_getElem?_getD, List.getElem?_eq_getElem h]; rfl
theorem ix_mod {s : List Nat} {i : Nat} : ix s (i % s.length) = ix s i := by unfold ix; rw [Nat.mod_mod]
theorem rot_get {s : List Nat} {i k : Nat} (hi : i < s.length) (hk : k ≤ s.length) : (rotw s k)[i]? = some (ix s (i + k)) := by
  unfold rotw
  by_cases c : i < s.length - k
  · rw [List.getElem?_append_left (by rw [List.length_drop]; exact c), List.getElem?_drop, show k + i = i + k by omega]
    exact ix_lt (by omega)
  · rw [List.getElem?_append_right (by rw [List.length_drop]; omega), List.getElem?_take, List.length_drop, if_pos (by omega)]
    rw [show i + k = (i - (s.length - k)) + s.length by omega]
    rw [per_len s]
    exact ix_lt (by omega)
theorem rot_per {s : List Nat} {k : Nat} (h : k ≤ s.length) : rotw s k = s ↔ per s k := by
  constructor
  · intro e i
    by_cases h0 : s = []
    · subst h0; rfl
    · have lp := List.length_pos_iff.mpr h0
      have hj := Nat.mod_lt i lp
      have h1 := rot_get hj h
      rw [e, ix_lt hj] at h1
      injection h1 with h1
      rw [ix_mod] at h1
      rw [h1]
      unfold ix
      rw [Nat.mod_add_mod]
  · intro hp
    refine List.ext_getElem? fun i => ?_
    by_cases c : i < s.length
    · rw [rot_get c h, ix_lt c, hp]
    · rw [List.getElem?_eq_none (by rw [rotw_len h]; omega), List.getElem?_eq_none (by omega)]
structure isRoot (s : List Nat) (p : Nat) : Prop where
  pos : 1 ≤ p
  le : p ≤ s.length
  rot : rotw s p = s
  least : ∀ k, 1 ≤ k → k < p → rotw s k ≠ s
theorem root_exists {s : List Nat} (h : s ≠ []) : ∃ p, isRoot s p := by
  have lp := List.length_pos_iff.mpr h
  have key : ∀ m : Nat, 1 ≤ m → m ≤ s.length → rotw s m = s → ∃ p, isRoot s p := by
    intro m
    induction m using Nat.strongRecOn with
    | _ m ih =>
      intro h1 h2 h3
      by_cases c : ∃ k, 1 ≤ k ∧ k < m ∧ rotw s k = s
      · obtain ⟨k, k1, k2, k3⟩ := c
        exact ih k k2 k1 (by omega) k3
      · exact ⟨m, h1, h2, h3, fun k k1 k2 k3 => c ⟨k, k1, k2, k3⟩⟩
  exact key s.length lp (Nat.le_refl _) ((rot_per (Nat.le_refl _)).mpr (per_len s))
theorem root_uniq {s : List Nat} {p q : Nat} (hp : isRoot s p) (hq : isRoot s q) : p = q := by
  rcases Nat.lt_trichotomy p q with c | c | c
  · exact absurd hp.rot (hq.least p hp.pos c)
  · exact c
  · exact absurd hq.rot (hp.least q hq.pos c)
theorem root_dvd {s : List Nat} {p : Nat} (hp : isRoot s p) : s.length % p = 0 := by
  have pp := (rot_per hp.le).mp hp.rot
  have pm := per_mod (per_len s) pp
  have lt := Nat.mod_lt s.length hp.pos
  by_cases c : s.length % p = 0
  · exact c
  · exact absurd ((rot_per (by have := hp.le; omega)).mpr pm) (hp.least _ (by omega) lt)
abbrev rep (m : Nat) (t : List Nat) : List Nat := (List.replicate m t).flatten
theorem rep_len {m : Nat} {t : List Nat} : (rep m t).length = m * t.length := by
  induction m with
  | zero => simp
  | succ m ih => rw [rep, List.replicate_succ, List.flatten_cons, List.length_append, show ((List.replicate m t).flatten).length = m * t.length from ih, Nat.succ_mul]; omega
theorem rep_succ {m : Nat} {t : List Nat} : rep (m + 1) t = t ++ rep m t := by rw [rep, List.replicate_succ, List.flatten_cons]
theorem rep_get {t : List Nat} (h : t ≠ []) : ∀ (m i : Nat), i < m * t.length → (rep m t)[i]? = some (ix t i)
  | 0, i, hi => by rw [Nat.zero_mul] at hi; omega
  | m + 1, i, hi => by
    rw [rep_succ]
    by_cases c : i < t.length
    · rw [List.getElem?_append_left c]; exact ix_lt c
    · rw [List.getElem?_append_right (by omega), rep_get h m _ (by rw [Nat.succ_mul] at hi; omega)]
      congr 1
      have := per_len t (i - t.length)
      rw [show i - t.length + t.length = i by omega] at this
      exact this.symm
theorem rep_ix {t : List Nat} {m : Nat} (h : t ≠ []) (hm : 0 < m) (i : Nat) : ix (rep m t) i = ix t i := by
  have lp := List.length_pos_iff.mpr h
  have hl : 0 < (rep m t).length := by rw [rep_len]; exact Nat.mul_pos hm lp
  have hj := Nat.mod_lt i hl
  have h1 := ix_lt hj
  rw [rep_get h m _ (by rw [← rep_len]; exact hj), ix_mod] at h1
  injection h1 with h1
  rw [← h1, rep_len, Nat.mul_comm]
  unfold ix
  rw [Nat.mod_mul_right_mod]
theorem per_at {s : List Nat} {p i : Nat} (hp : per s p) : ix s (i % p) = ix s i := by
  have := per_mul hp (i / p) (i % p)
  rw [show i % p + i / p * p = i by have := Nat.div_add_mod i p; rw [Nat.mul_comm] at this; omega] at this
  exact this.symm
theorem take_ix {s : List Nat} {p i : Nat} (h1 : 1 ≤ p) (h2 : p ≤ s.length) : ix (s.take p) i = ix s (i % p) := by
  have hl : (s.take p).length = p := by rw [List.length_take]; omega
  have hj := Nat.mod_lt i h1
  have a := ix_lt (s := s.take p) (i := i % p) (by omega)
  rw [List.getElem?_take, if_pos hj, ix_lt (by omega)] at a
  injection a with a
  rw [a]
  unfold ix
  rw [hl, Nat.mod_mod]
theorem root_rep {s : List Nat} {p : Nat} (hp : isRoot s p) : rep (s.length / p) (s.take p) = s := by
  have pp := (rot_per hp.le).mp hp.rot
  have h1 := hp.pos
  have h2 := hp.le
  have hl : (s.take p).length = p := by rw [List.length_take]; omega
  have hn : s.length / p * p = s.length := by have := Nat.div_add_mod s.length p; rw [root_dvd hp, Nat.mul_comm] at this; omega
  have h0 : s.take p ≠ [] := by intro z; rw [z] at hl; simp at hl; omega
  refine List.ext_getElem? fun i => ?_
  by_cases c : i < s.length
  · rw [rep_get h0 _ _ (by rw [hl, hn]; exact c), ix_lt c, take_ix h1 h2, per_at pp]
  · rw [List.getElem?_eq_none (by rw [rep_len, hl, hn]; omega), List.getElem?_eq_none (by omega)]
theorem rep_per {s : List Nat} {d : Nat} (h1 : 1 ≤ d) (h2 : d ≤ s.length) (hm : 0 < s.length / d) (h : rep (s.length / d) (s.take d) = s) : per s d := fun i => by
  have hl : (s.take d).length = d := by rw [List.length_take]; omega
  have h0 : s.take d ≠ [] := by intro z; rw [z] at hl; simp at hl; omega
  have e : ∀ i, ix s i = ix (s.take d) i := fun i => by
    have := rep_ix h0 hm i
    rw [h] at this
    exact this
  rw [e, e]
  have := per_len (s.take d) i
  rwa [hl] at this
theorem rep_comm {s t : List Nat} (h : s ++ t = t ++ s) : ∀ m, rep m s ++ t = t ++ rep m s
  | 0 => by show [] ++ t = t ++ []; rw [List.append_nil]; rfl
  | m + 1 => by rw [rep_succ, List.append_assoc, rep_comm h m, ← List.append_assoc, h, List.append_assoc]
theorem comm_ix {s t : List Nat} (hs : s ≠ []) (ht : t ≠ []) : s ++ t = t ++ s ↔ ∀ i, ix s i = ix t i := by
  have ls := List.length_pos_iff.mpr hs
  have lt := List.length_pos_iff.mpr ht
  constructor
  · intro h i
    have h1 := rep_comm h t.length
    have h2 := rep_comm h1.symm s.length
    have e : rep s.length t = rep t.length s := (List.append_inj h2 (by rw [rep_len, rep_len, Nat.mul_comm])).1
    have a := rep_ix hs lt i
    have b := rep_ix ht ls i
    rw [← e] at a
    rw [← a, b]
  · intro h
    have key : ∀ (u v : List Nat), u ≠ [] → v ≠ [] → (∀ i, ix u i = ix v i) → ∀ j, j < u.length + v.length → (u ++ v)[j]? = some (ix u j) := fun u v hu hv h j hj => by
      by_cases c : j < u.length
      · rw [List.getElem?_append_left c]; exact ix_lt c
      · rw [List.getElem?_append_right (by omega), ix_lt (by omega), ← h]
        congr 1
        have := per_len u (j - u.length)
        rw [show j - u.length + u.length = j by omega] at this
        exact this.symm
    refine List.ext_getElem? fun j => ?_
    by_cases c : j < s.length + t.length
    · rw [key s t hs ht h j c, key t s ht hs (fun i => (h i).symm) j (by omega), h]
    · rw [List.getElem?_eq_none (by rw [List.length_append]; omega), List.getElem?_eq_none (by rw [List.length_append]; omega)]
theorem rep_add {a b : Nat} {r : List Nat} : rep a r ++ rep b r = rep (a + b) r := by
  rw [rep, rep, ← List.flatten_append, List.replicate_append_replicate]
theorem same_root {s t : List Nat} {p q : Nat} (hp : isRoot s p) (hq : isRoot t q) : s.take p = t.take q ↔ s ++ t = t ++ s := by
  have hs : s ≠ [] := by intro z; have h1 := hp.le; have h2 := hp.pos; rw [z, List.length_nil] at h1; omega
  have ht : t ≠ [] := by intro z; have h1 := hq.le; have h2 := hq.pos; rw [z, List.length_nil] at h1; omega
  constructor
  · intro h
    rw [← root_rep hp, ← root_rep hq, ← h, rep_add, rep_add, Nat.add_comm]
  · intro h
    have e := (comm_ix hs ht).mp h
    have pe : ∀ k, per s k ↔ per t k := fun k => ⟨fun a i => by rw [← e, ← e]; exact a i, fun a i => by rw [e, e]; exact a i⟩
    have ps := (rot_per hp.le).mp hp.rot
    have pt := (rot_per hq.le).mp hq.rot
    have epq : p = q := by
      rcases Nat.lt_trichotomy p q with c | c | c
      · exact absurd ((rot_per (by have := hq.le; omega)).mpr ((pe p).mp ps)) (hq.least p hp.pos c)
      · exact c
      · exact absurd ((rot_per (by have := hp.le; omega)).mpr ((pe q).mpr pt)) (hp.least q hq.pos c)
    subst epq
    have l1 := hp.le
    have l2 := hq.le
    refine List.ext_getElem? fun i => ?_
    rw [List.getElem?_take, List.getElem?_take]
    by_cases c : i < p
    · rw [if_pos c, if_pos c, ix_lt (by omega), ix_lt (by omega), e]
    · rw [if_neg c, if_neg c]
/-! ### firsts of filters -/
theorem head_filter {n h : Nat} {p : Nat → Bool} (hn : h < n) (hp : p h = true) (hl : ∀ j, j < h → p j = false) : ((List.range n).filter p).head? = some h := by
  rw [List.head?_filter, List.find?_range_eq_some]
  exact ⟨hp, List.mem_range.mpr hn, fun j hj => by rw [hl j hj]; rfl⟩
theorem at_head {l : List Nat} {h : Nat} {f : Nat → D} (e : l.head? = some h) : atD (l.map f) 0 = some (f h) := by
  cases l with
  | nil => cases e
  | cons x r =>
    injection e with e
    subst e
    exact at_map (f := f) (l := x :: r) (i := 0) (by simp)
/-! ### moves that close -/
theorem comp_fix {q m : Pl} (hq : q.ok) (hm : m.ok) : comp q m = q ↔ m = o0 := by
  constructor
  · intro h
    have h1 := congrArg Pl.r h
    have h2 := congrArg Pl.u h
    have h3 := congrArg Pl.w h
    have hw := Pl.way hq
    obtain ⟨a, b, c⟩ := q
    obtain ⟨r, u, w⟩ := m
    obtain ⟨m1, m2⟩ := hm
    simp only at hw m1 m2
    simp only [comp] at h1 h2 h3
    rcases hw with rfl | rfl | rfl | rfl <;> simp [dx, dy] at h1 h2 h3 <;> refine Pl.ext ?_ ?_ ?_ <;> simp only [o0] <;> omega
  · intro h; rw [h, comp_o0 hq]
theorem laps_dvd {m : Pl} (h : m.ok) {k : Nat} (k0 : 1 ≤ k) (hk : pw m k = o0) : ∃ L : Nat, 1 ≤ L ∧ L ≤ 4 ∧ lapsD m = .int L ∧ k % L = 0 := by
  have hw := Pl.way h
  have w := pw_w h k
  rw [hk] at w
  have w' : (m.w * (k : Int)) % 4 = 0 := w.symm
  have low : ∀ j : Nat, pw m j = o0 → (m.w * (j : Int)) % 4 = 0 := fun j hj => by
    have := pw_w h j
    rw [hj] at this
    exact this.symm
  rcases hw with e | e | e | e
  · refine ⟨1, by omega, by omega, laps_first h (by omega) (by omega) ?_ (fun j a b => by omega), Nat.mod_one _⟩
    rw [pw0 e] at hk ⊢
    have h1 := congrArg Pl.r hk
    have h2 := congrArg Pl.u hk
    simp only [o0] at h1 h2
    have k1 : (k : Int) ≠ 0 := by omega
    have r0 : m.r = 0 := by
      rcases Int.mul_eq_zero.mp h1 with z | z
      · exact z
      · exact absurd z k1
    have u0 : m.u = 0 := by
      rcases Int.mul_eq_zero.mp h2 with z | z
      · exact z
      · exact absurd z k1
    rw [r0, u0]; rfl
  · refine ⟨4, by omega, by omega, laps_first h (by omega) (by omega) (pw4 h (by omega)) (fun j a b z => ?_), by rw [e] at w'; omega⟩
    have := low j z; rw [e] at this; omega
  · refine ⟨2, by omega, by omega, laps_first h (by omega) (by omega) (pw2 e) (fun j a b z => ?_), by rw [e] at w'; omega⟩
    have := low j z; rw [e] at this; omega
  · refine ⟨4, by omega, by omega, laps_first h (by omega) (by omega) (pw4 h (by omega)) (fun j a b z => ?_), by rw [e] at w'; omega⟩
    have := low j z; rw [e] at this; omega
end G
set_option Elab.async false
set_option linter.all false
set_option maxRecDepth 100000
namespace G
/-! ### numbers with the root of two: a + b √2 -/
theorem sq_mono {x y : Int} (h0 : 0 ≤ x) (h : x ≤ y) : x * x ≤ y * y := Int.mul_le_mul h h h0 (by omega)
theorem sq_nn (x : Int) : 0 ≤ x * x := by
  rcases Int.le_total 0 x with h | h
  · exact Int.mul_nonneg h h
  · exact Int.mul_nonneg_of_nonpos_of_nonpos h h
theorem sq_le {x y : Int} (h0 : 0 ≤ y) (h : x * x ≤ y * y) : -y ≤ x ∧ x ≤ y := by
  constructor
  · refine Classical.byContradiction fun c => ?_
    have := sq_mono (x := y + 1) (y := -x) (by omega) (by omega)
    have e1 : (y + 1) * (y + 1) = y * y + 2 * y + 1 := by grind
    have e2 : -x * -x = x * x := by grind
    omega
  · refine Classical.byContradiction fun c => ?_
    have := sq_mono (x := y + 1) (y := x) (by omega) (by omega)
    have e1 : (y + 1) * (y + 1) = y * y + 2 * y + 1 := by grind
    omega
theorem irrN : ∀ (n m : Nat), n * n = 2 * (m * m) → n = 0 := by
  intro n
  induction n using Nat.strongRecOn with
  | _ n ih =>
    intro m h
    rcases Nat.mod_two_eq_zero_or_one n with e | e
    · obtain ⟨k, hk⟩ : ∃ k, n = 2 * k := ⟨n / 2, by omega⟩
      subst hk
      have h2 : m * m = 2 * (k * k) := by grind
      by_cases hm : m < 2 * k
      · have := ih m hm k h2
        subst this
        have : k * k = 0 := by omega
        rcases Nat.mul_eq_zero.mp this with z | z <;> omega
      · have : 2 * k * (2 * k) ≤ m * m := Nat.mul_le_mul (by omega) (by omega)
        have h3 : 2 * k * (2 * k) = 4 * (k * k) := by grind
        have : k * k = 0 := by omega
        rcases Nat.mul_eq_zero.mp this with z | z <;> omega
    · have := Nat.mul_mod n n 2
      rw [e] at this
      omega
theorem irr {a b : Int} (h : a * a = 2 * (b * b)) : a = 0 ∧ b = 0 := by
  have hn : a.natAbs * a.natAbs = 2 * (b.natAbs * b.natAbs) := by
    have h1 := Int.natAbs_mul_self (a := a)
    have h2 := Int.natAbs_mul_self (a := b)
    omega
  have a0 := irrN _ _ hn
  have a0' : a = 0 := by omega
  subst a0'
  refine ⟨rfl, ?_⟩
  have : b * b = 0 := by omega
  rcases Int.mul_eq_zero.mp this with z | z <;> exact z
/-- a + b √2 is 0 or more -/
def posS (a b : Int) : Prop := (0 ≤ a ∧ 2 * (b * b) ≤ a * a) ∨ (0 ≤ b ∧ a * a ≤ 2 * (b * b))
instance {a b : Int} : Decidable (posS a b) := by unfold posS; infer_instance
theorem pos_nn {a b : Int} (h1 : 0 ≤ a) (h2 : 0 ≤ b) : posS a b := by
  rcases Int.le_total (2 * (b * b)) (a * a) with h | h
  · exact .inl ⟨h1, h⟩
  · exact .inr ⟨h2, h⟩
theorem pos_neg {a b : Int} (h : ¬ posS a b) : posS (-a) (-b) := by
  have e1 : -a * -a = a * a := by grind
  have e2 : -b * -b = b * b := by grind
  unfold posS at *
  rw [e1, e2]
  omega
theorem pos_anti {a b : Int} (h1 : posS a b) (h2 : posS (-a) (-b)) : a = 0 ∧ b = 0 := by
  have e1 : -a * -a = a * a := by grind
  have e2 : -b * -b = b * b := by grind
  have na := sq_nn a
  have nb := sq_nn b
  unfold posS at *
  rw [e1, e2] at h2
  have bz : b * b = 0 → b = 0 := fun z => by rcases Int.mul_eq_zero.mp z with z | z <;> exact z
  have az : a * a = 0 → a = 0 := fun z => by rcases Int.mul_eq_zero.mp z with z | z <;> exact z
  by_cases e : a * a = 2 * (b * b)
  · exact irr e
  · rcases h1 with ⟨p, q⟩ | ⟨p, q⟩ <;> rcases h2 with ⟨r, t⟩ | ⟨r, t⟩
    · have a0 : a = 0 := by omega
      subst a0
      exact ⟨rfl, bz (by omega)⟩
    · omega
    · omega
    · have b0 : b = 0 := by omega
      subst b0
      exact ⟨az (by omega), rfl⟩
theorem absAA {a b c d : Int} (h1 : 0 ≤ a) (h2 : 2 * (b * b) ≤ a * a) (h3 : 0 ≤ c) (h4 : 2 * (d * d) ≤ c * c) : -(a * c) ≤ 2 * (b * d) ∧ 2 * (b * d) ≤ a * c := by
  have nb := sq_nn b
  have nd := sq_nn d
  have na := sq_nn a
  have := Int.mul_le_mul h2 h4 (by omega) na
  exact sq_le (Int.mul_nonneg h1 h3) (by grind)
theorem absBB {a b c d : Int} (h1 : 0 ≤ b) (h2 : a * a ≤ 2 * (b * b)) (h3 : 0 ≤ d) (h4 : c * c ≤ 2 * (d * d)) : -(2 * (b * d)) ≤ a * c ∧ a * c ≤ 2 * (b * d) := by
  have nc := sq_nn c
  have nb := sq_nn b
  have := Int.mul_le_mul h2 h4 nc (by omega)
  have p := Int.mul_nonneg h1 h3
  exact sq_le (by omega) (by grind)
theorem absAB {a b c d : Int} (h1 : 0 ≤ a) (h2 : 2 * (b * b) ≤ a * a) (h3 : 0 ≤ d) (h4 : c * c ≤ 2 * (d * d)) : -(a * d) ≤ b * c ∧ b * c ≤ a * d := by
  have nc := sq_nn c
  have na := sq_nn a
  have := Int.mul_le_mul h2 h4 nc na
  exact sq_le (Int.mul_nonneg h1 h3) (by grind)
theorem addAA {a b c d : Int} (h1 : 0 ≤ a) (h2 : 2 * (b * b) ≤ a * a) (h3 : 0 ≤ c) (h4 : 2 * (d * d) ≤ c * c) : 0 ≤ a + c ∧ 2 * ((b + d) * (b + d)) ≤ (a + c) * (a + c) := by
  have := absAA h1 h2 h3 h4
  exact ⟨by omega, by grind⟩
theorem addBB {a b c d : Int} (h1 : 0 ≤ b) (h2 : a * a ≤ 2 * (b * b)) (h3 : 0 ≤ d) (h4 : c * c ≤ 2 * (d * d)) : 0 ≤ b + d ∧ (a + c) * (a + c) ≤ 2 * ((b + d) * (b + d)) := by
  have := absBB h1 h2 h3 h4
  exact ⟨by omega, by grind⟩
theorem addAB {a b c d : Int} (h1 : 0 ≤ a) (h2 : 2 * (b * b) ≤ a * a) (h3 : 0 ≤ d) (h4 : c * c ≤ 2 * (d * d)) : posS (a + c) (b + d) := by
  rcases Int.le_total (2 * ((b + d) * (b + d))) ((a + c) * (a + c)) with h | h
  · by_cases x : 0 ≤ a + c
    · exact .inl ⟨x, h⟩
    · have := addAA (a := -(a + c)) (b := -(b + d)) (c := a) (d := b) (by omega) (by grind) h1 h2
      have e : c * c = 2 * (d * d) := by grind
      have := irr e
      omega
  · by_cases y : 0 ≤ b + d
    · exact .inr ⟨y, h⟩
    · have := addBB (a := -(a + c)) (b := -(b + d)) (c := c) (d := d) (by omega) (by grind) h3 h4
      have e : a * a = 2 * (b * b) := by grind
      have := irr e
      omega
theorem pos_add {a b c d : Int} (h1 : posS a b) (h2 : posS c d) : posS (a + c) (b + d) := by
  rcases h1 with ⟨p, q⟩ | ⟨p, q⟩ <;> rcases h2 with ⟨r, t⟩ | ⟨r, t⟩
  · exact .inl (addAA p q r t)
  · exact addAB p q r t
  · rw [Int.add_comm a c, Int.add_comm b d]; exact addAB r t p q
  · exact .inr (addBB p q r t)
theorem normM (a b c d : Int) : (a * c + 2 * (b * d)) * (a * c + 2 * (b * d)) - 2 * ((a * d + b * c) * (a * d + b * c)) = (a * a - 2 * (b * b)) * (c * c - 2 * (d * d)) := by grind
theorem pos_mul {a b c d : Int} (h1 : posS a b) (h2 : posS c d) : posS (a * c + 2 * (b * d)) (a * d + b * c) := by
  have n := normM a b c d
  rcases h1 with ⟨p, q⟩ | ⟨p, q⟩ <;> rcases h2 with ⟨r, t⟩ | ⟨r, t⟩
  · have := absAA p q r t
    have m := Int.mul_nonneg (show 0 ≤ a * a - 2 * (b * b) by omega) (show 0 ≤ c * c - 2 * (d * d) by omega)
    exact .inl ⟨by omega, by omega⟩
  · have := absAB p q r t
    have m := Int.mul_nonpos_of_nonneg_of_nonpos (show 0 ≤ a * a - 2 * (b * b) by omega) (show c * c - 2 * (d * d) ≤ 0 by omega)
    exact .inr ⟨by omega, by omega⟩
  · have := absAB (a := c) (b := d) (c := a) (d := b) r t p q
    have m := Int.mul_nonpos_of_nonpos_of_nonneg (show a * a - 2 * (b * b) ≤ 0 by omega) (show 0 ≤ c * c - 2 * (d * d) by omega)
    have e1 : d * a = a * d := Int.mul_comm _ _
    have e2 : c * b = b * c := Int.mul_comm _ _
    exact .inr ⟨by omega, by omega⟩
  · have := absBB p q r t
    have m := Int.mul_nonneg_of_nonpos_of_nonpos (show a * a - 2 * (b * b) ≤ 0 by omega) (show c * c - 2 * (d * d) ≤ 0 by omega)
    exact .inl ⟨by omega, by omega⟩
/-- the sign -/
def sg (a b : Int) : Int := if a = 0 ∧ b = 0 then 0 else if posS a b then 1 else -1
theorem sg_pos {a b : Int} : 0 ≤ sg a b ↔ posS a b := by
  unfold sg
  by_cases z : a = 0 ∧ b = 0
  · rw [if_pos z]
    obtain ⟨rfl, rfl⟩ := z
    exact ⟨fun _ => pos_nn (by omega) (by omega), fun _ => by omega⟩
  · rw [if_neg z]
    by_cases p : posS a b
    · rw [if_pos p]; exact ⟨fun _ => p, fun _ => by omega⟩
    · rw [if_neg p]; exact ⟨fun h => by omega, fun h => absurd h p⟩
theorem sg_zero {a b : Int} : sg a b = 0 ↔ a = 0 ∧ b = 0 := by
  unfold sg
  by_cases z : a = 0 ∧ b = 0
  · rw [if_pos z]; exact ⟨fun _ => z, fun _ => rfl⟩
  · rw [if_neg z]
    by_cases p : posS a b
    · rw [if_pos p]; exact ⟨fun h => by omega, fun h => absurd h z⟩
    · rw [if_neg p]; exact ⟨fun h => by omega, fun h => absurd h z⟩
theorem sg_one {a b : Int} (z : ¬ (a = 0 ∧ b = 0)) (p : posS a b) : sg a b = 1 := by unfold sg; rw [if_neg z, if_pos p]
theorem sg_m1 {a b : Int} (p : ¬ posS a b) : sg a b = -1 := by
  unfold sg
  rw [if_neg, if_neg p]
  rintro ⟨rfl, rfl⟩
  exact p (pos_nn (by omega) (by omega))
theorem sg_neg {a b : Int} : sg (-a) (-b) = -sg a b := by
  by_cases z : a = 0 ∧ b = 0
  · obtain ⟨rfl, rfl⟩ := z; decide
  · by_cases p : posS a b
    · rw [sg_one z p, sg_m1]
      intro q
      exact z (pos_anti p q)
    · rw [sg_m1 p, sg_one (by omega) (pos_neg p)]
      omega
theorem sg_mul (a b c d : Int) : sg (a * c + 2 * (b * d)) (a * d + b * c) = sg a b * sg c d := by
  by_cases z1 : a = 0 ∧ b = 0
  · obtain ⟨rfl, rfl⟩ := z1
    rw [show sg 0 0 = 0 from by decide]
    simp [sg]
  by_cases z2 : c = 0 ∧ d = 0
  · obtain ⟨rfl, rfl⟩ := z2
    rw [show sg 0 0 = 0 from by decide]
    simp [sg]
  have nz : ¬ (a * c + 2 * (b * d) = 0 ∧ a * d + b * c = 0) := by
    rintro ⟨h1, h2⟩
    have n := normM a b c d
    rw [h1, h2] at n
    rcases Int.mul_eq_zero.mp (show (a * a - 2 * (b * b)) * (c * c - 2 * (d * d)) = 0 by omega) with z | z
    · exact z1 (irr (by omega))
    · exact z2 (irr (by omega))
  have pp : ∀ a b c d : Int, ¬ (a * c + 2 * (b * d) = 0 ∧ a * d + b * c = 0) → posS a b → posS c d → sg (a * c + 2 * (b * d)) (a * d + b * c) = 1 := fun a b c d n p q => sg_one n (pos_mul p q)
  by_cases p1 : posS a b
  · by_cases p2 : posS c d
    · rw [sg_one z1 p1, sg_one z2 p2, pp a b c d nz p1 p2]; rfl
    · rw [sg_one z1 p1, sg_m1 p2]
      have := pp a b (-c) (-d) (by intro h; exact nz ⟨by grind, by grind⟩) p1 (pos_neg p2)
      rw [show a * -c + 2 * (b * -d) = -(a * c + 2 * (b * d)) by grind, show a * -d + b * -c = -(a * d + b * c) by grind, sg_neg] at this
      omega
  · by_cases p2 : posS c d
    · rw [sg_m1 p1, sg_one z2 p2]
      have := pp (-a) (-b) c d (by intro h; exact nz ⟨by grind, by grind⟩) (pos_neg p1) p2
      rw [show -a * c + 2 * (-b * d) = -(a * c + 2 * (b * d)) by grind, show -a * d + -b * c = -(a * d + b * c) by grind, sg_neg] at this
      omega
    · rw [sg_m1 p1, sg_m1 p2]
      have := pp (-a) (-b) (-c) (-d) (by intro h; exact nz ⟨by grind, by grind⟩) (pos_neg p1) (pos_neg p2)
      rw [show -a * -c + 2 * (-b * -d) = a * c + 2 * (b * d) by grind, show -a * -d + -b * -c = a * d + b * c by grind] at this
      omega
/-- the root of a number, rounded down -/
def isRt (n r : Int) : Prop := 0 ≤ r ∧ r * r ≤ n ∧ n < (r + 1) * (r + 1)
theorem rt_uniq {n r t : Int} (h1 : isRt n r) (h2 : isRt n t) : r = t := by
  obtain ⟨a, b, c⟩ := h1
  obtain ⟨d, e, f⟩ := h2
  rcases Int.lt_trichotomy r t with x | x | x
  · have := sq_mono (x := r + 1) (y := t) (by omega) (by omega); omega
  · exact x
  · have := sq_mono (x := t + 1) (y := r) (by omega) (by omega); omega
theorem pos_crit {a b r : Int} (h : isRt (2 * (b * b)) r) : posS a b ↔ (0 ≤ b ∧ -r ≤ a) ∨ (b < 0 ∧ r < a) := by
  obtain ⟨h0, h1, h2⟩ := h
  constructor
  · intro p
    by_cases hb : 0 ≤ b
    · refine .inl ⟨hb, ?_⟩
      rcases p with ⟨p, q⟩ | ⟨p, q⟩
      · omega
      · refine Classical.byContradiction fun c => ?_
        have := sq_mono (x := r + 1) (y := -a) (by omega) (by omega)
        have e : -a * -a = a * a := by grind
        omega
    · refine .inr ⟨by omega, ?_⟩
      rcases p with ⟨p, q⟩ | ⟨p, q⟩
      · refine Classical.byContradiction fun c => ?_
        have := sq_mono (x := a) (y := r) p (by omega)
        have e : a * a = 2 * (b * b) := by omega
        have := irr e
        omega
      · omega
  · rintro (⟨hb, ha⟩ | ⟨hb, ha⟩)
    · by_cases a0 : 0 ≤ a
      · exact pos_nn a0 hb
      · have := sq_mono (x := -a) (y := r) (by omega) (by omega)
        have e : -a * -a = a * a := by grind
        exact .inr ⟨hb, by omega⟩
    · have := sq_mono (x := r + 1) (y := a) (by omega) (by omega)
      exact .inl ⟨by omega, by omega⟩
end G
set_option Elab.async false
set_option linter.all false
set_option maxRecDepth 100000
namespace G
theorem q_rollW {n : Int} {P : D → Prop} (h0 : 0 < n) (h1 : n < 4611686018427387904) (h : ∀ r, 0 ≤ r → r < n → P (.int r)) : dRollW [.cup, .int n] P := ⟨⟨h0, h1⟩, h⟩
theorem q_someW {xs : List D} {P : D → Prop} (h0 : 0 < xs.length) (h1 : xs.length < 1000000) (h : ∀ x ∈ xs, P x) : dRollW [.cup, .int xs.length] fun r => dItem (.lst xs) r P := by
  refine q_rollW (by omega) (by omega) fun r hr0 hr1 => ?_
  rw [q_it_l]
  unfold atD ixD
  rw [if_pos hr0, if_pos hr1]
  have : r.toNat < xs.length := by omega
  simp [optP, this]
  exact h _ (List.getElem_mem _)
end G
set_option Elab.async false
set_option linter.all false
set_option maxRecDepth 100000
namespace L37
open G
def c_PIECES : D := .str [115, 108, 114]
def c_LONG : D := .int 120
def c_GREAT : D := .int 1000000000
def c_COSINES : D := .kt [.kt [.int 2, .int 0], .kt [.int 0, .int 1], .kt [.int 0, .int 0], .kt [.int 0, .int (-1)], .kt [.int (-2), .int 0], .kt [.int 0, .int (-1)], .kt [.int 0, .int 0], .kt [.int 0, .int 1]]
def S_is_whole : SM :=
  (sRet (eAnd (eCall dIsi (aCons (eVar 0) (aCons (eC (.ty "int")) aNil))) (eNot (eCall dIsi (aCons (eVar 0) (aCons (eC (.ty "bool")) aNil))))))
def m_is_whole : List D → M D := fnM 1 1 S_is_whole
def S_fits_whole : SM :=
  (sRet (eAnd (eCall m_is_whole (aCons (eVar 0) aNil)) (eChain dLe dLe (eVar 1) (eVar 0) (eVar 2))))
def m_fits_whole : List D → M D := fnM 3 3 S_fits_whole
def S_is_tuple_of : SM :=
  (sRet (eAnd (eCall dIsi (aCons (eVar 0) (aCons (eC (.ty "tuple")) aNil))) (eChain dLe dLe (eVar 1) (eCall dLen (aCons (eVar 0) aNil)) (eVar 2))))
def m_is_tuple_of : List D → M D := fnM 3 3 S_is_tuple_of
def S_plus : SM :=
  (sRet (eTup (aCons (eBin dAdd (eBin dItem (eVar 0) (eC (.int 0))) (eBin dItem (eVar 1) (eC (.int 0)))) (aCons (eBin dAdd (eBin dItem (eVar 0) (eC (.int 1))) (eBin dItem (eVar 1) (eC (.int 1)))) aNil))))
def m_plus : List D → M D := fnM 2 2 S_plus
def S_minus : SM :=
  (sRet (eTup (aCons (eBin dSub (eBin dItem (eVar 0) (eC (.int 0))) (eBin dItem (eVar 1) (eC (.int 0)))) (aCons (eBin dSub (eBin dItem (eVar 0) (eC (.int 1))) (eBin dItem (eVar 1) (eC (.int 1)))) aNil))))
def m_minus : List D → M D := fnM 2 2 S_minus
def S_cosine : SM :=
  (sRet (eBin dItem (eC c_COSINES) (eBin dMod (eVar 0) (eC (.int 8)))))
def m_cosine : List D → M D := fnM 1 1 S_cosine
def S_sine : SM :=
  (sRet (eBin dItem (eC c_COSINES) (eBin dMod (eBin dAdd (eVar 0) (eC (.int 6))) (eC (.int 8)))))
def m_sine : List D → M D := fnM 1 1 S_sine
def S_root_below : SM :=
  (sSeq (sPar 1 2 (aCons (eC (.int 0)) (aCons (eBin dAdd (eVar 0) (eC (.int 1))) aNil)))
  (sSeq (sWhile (tVal (eBin dGt (eBin dSub (eVar 2) (eVar 1)) (eC (.int 1))))
  (sSeq (sSet 3 (eBin dDiv (eBin dAdd (eVar 1) (eVar 2)) (eC (.int 2))))
  (sAsg (gTn 2 (gsCons (gN 1) (gsCons (gN 2) gsNil))) (eIf (tVal (eBin dLe (eBin dMul (eVar 3) (eVar 3)) (eVar 0))) (eTup (aCons (eVar 3) (aCons (eVar 2) aNil))) (eTup (aCons (eVar 1) (aCons (eVar 3) aNil)))))))
  (sRet (eVar 1))))
def m_root_below : List D → M D := fnM 1 4 S_root_below
def S_sign_in : SM :=
  (sSeq (sAsg (gTn 2 (gsCons (gN 1) (gsCons (gN 2) gsNil))) (eVar 0))
  (sSeq (sIf (tAnd (tVal (eBin dGe (eVar 1) (eC (.int 0)))) (tVal (eBin dGe (eVar 2) (eC (.int 0)))))
  (sRet (eCall dInt (aCons (eOr (eBin dGt (eVar 1) (eC (.int 0))) (eBin dGt (eVar 2) (eC (.int 0)))) aNil)))
  sNil)
  (sSeq (sIf (tAnd (tVal (eBin dLe (eVar 1) (eC (.int 0)))) (tVal (eBin dLe (eVar 2) (eC (.int 0)))))
  (sRet (eUn dNeg (eC (.int 1))))
  sNil)
  (sSeq (sSet 3 (eBin dGt (eBin dMul (eVar 1) (eVar 1)) (eBin dMul (eBin dMul (eC (.int 2)) (eVar 2)) (eVar 2))))
  (sRet (eIf (tVal (eBin dEq (eBin dGt (eVar 1) (eC (.int 0))) (eVar 3))) (eC (.int 1)) (eUn dNeg (eC (.int 1)))))))))
def m_sign_in : List D → M D := fnM 1 4 S_sign_in
def S_whole_in : SM :=
  (sSeq (sAsg (gTn 2 (gsCons (gN 1) (gsCons (gN 2) gsNil))) (eVar 0))
  (sSeq (sSet 3 (eCall m_root_below (aCons (eBin dMul (eBin dMul (eC (.int 2)) (eVar 2)) (eVar 2)) aNil)))
  (sRet (eIf (tVal (eBin dGe (eVar 2) (eC (.int 0)))) (eBin dDiv (eBin dAdd (eVar 1) (eVar 3)) (eC (.int 2))) (eBin dDiv (eBin dSub (eBin dSub (eVar 1) (eVar 3)) (eC (.int 1))) (eC (.int 2)))))))
def m_whole_in : List D → M D := fnM 1 4 S_whole_in
def S_behind_in : SM :=
  (sSeq (sAsg (gTn 3 (gsCons (gN 2) (gsCons (gN 3) (gsCons (gN 4) gsNil)))) (eVar 0))
  (sSeq (sIf (tVal (eBin dEq (eVar 1) (eC (.str [115]))))
  (sRet (eTup (aCons (eCall m_plus (aCons (eVar 2) (aCons (eCall m_cosine (aCons (eVar 4) aNil)) aNil))) (aCons (eCall m_plus (aCons (eVar 3) (aCons (eCall m_sine (aCons (eVar 4) aNil)) aNil))) (aCons (eVar 4) aNil)))))
  sNil)
  (sSeq (sSet 5 (eIf (tVal (eBin dEq (eVar 1) (eC (.str [108])))) (eVar 4) (eBin dSub (eVar 4) (eC (.int 1)))))
  (sSeq (sPar 2 3 (aCons (eCall m_plus (aCons (eVar 2) (aCons (eCall m_minus (aCons (eCall m_sine (aCons (eBin dAdd (eVar 5) (eC (.int 1))) aNil)) (aCons (eCall m_sine (aCons (eVar 5) aNil)) aNil))) aNil))) (aCons (eCall m_plus (aCons (eVar 3) (aCons (eCall m_minus (aCons (eCall m_cosine (aCons (eVar 5) aNil)) (aCons (eCall m_cosine (aCons (eBin dAdd (eVar 5) (eC (.int 1))) aNil)) aNil))) aNil))) aNil)))
  (sRet (eTup (aCons (eVar 2) (aCons (eVar 3) (aCons (eBin dMod (eIf (tVal (eBin dEq (eVar 1) (eC (.str [108])))) (eBin dAdd (eVar 4) (eC (.int 1))) (eBin dAdd (eVar 4) (eC (.int 7)))) (eC (.int 8))) aNil)))))))))
def m_behind_in : List D → M D := fnM 2 6 S_behind_in
def S_along_in : SM :=
  (sSeq (sSetO 1 (eLst (aCons (eTup (aCons (eTup (aCons (eC (.int 0)) (aCons (eC (.int 0)) aNil))) (aCons (eTup (aCons (eC (.int 0)) (aCons (eC (.int 0)) aNil))) (aCons (eC (.int 0)) aNil)))) aNil)))
  (sSeq (sFor (iSeq (eVar 0)) (gN 2)
  (sAppend 1 (eCall m_behind_in (aCons (eBin dItem (eVarB 1) (eUn dNeg (eC (.int 1)))) (aCons (eVar 2) aNil)))))
  (sFrz 1 (sRet (eVar 1)))))
def m_along_in : List D → M D := fnM 1 3 S_along_in
def S_fits_eighths : SM :=
  (sRet (eAnd (eCall dIsi (aCons (eVar 0) (aCons (eC (.ty "str")) aNil))) (eAnd (eBin dLe (eCall dLen (aCons (eVar 0) aNil)) (eC c_LONG)) (eCall dAll (aCons (eLC [1] (iSeq (eVar 0)) (gN 1) tTrue (eBin dInA (eVar 1) (eC c_PIECES))) aNil)))))
def m_fits_eighths : List D → M D := fnM 1 2 S_fits_eighths
def S_need_eighths : SM :=
  (sIf (tNot (tVal (eCall m_fits_eighths (aCons (eVar 0) aNil))))
  sStuck
  sNil)
def m_need_eighths : List D → M D := fnM 1 1 S_need_eighths
def S_fits_number : SM :=
  (sRet (eAnd (eCall m_is_tuple_of (aCons (eVar 0) (aCons (eC (.int 2)) (aCons (eC (.int 2)) aNil)))) (eCall dAll (aCons (eLC [1] (iSeq (eVar 0)) (gN 1) tTrue (eCall m_fits_whole (aCons (eVar 1) (aCons (eUn dNeg (eC c_GREAT)) (aCons (eC c_GREAT) aNil))))) aNil))))
def m_fits_number : List D → M D := fnM 1 2 S_fits_number
def S_need_number : SM :=
  (sIf (tNot (tVal (eCall m_fits_number (aCons (eVar 0) aNil))))
  sStuck
  sNil)
def m_need_number : List D → M D := fnM 1 1 S_need_number
def S_least_in : SM :=
  (sSeq (sSet 1 (eBin dItem (eVar 0) (eC (.int 0))))
  (sSeq (sFor (iSeq (eVar 0)) (gN 2)
  (sSet 1 (eIf (tVal (eBin dGt (eCall m_sign_in (aCons (eCall m_minus (aCons (eVar 1) (aCons (eVar 2) aNil))) aNil)) (eC (.int 0)))) (eVar 2) (eVar 1))))
  (sRet (eVar 1))))
def m_least_in : List D → M D := fnM 1 3 S_least_in
def S_greatest_in : SM :=
  (sSeq (sSet 1 (eBin dItem (eVar 0) (eC (.int 0))))
  (sSeq (sFor (iSeq (eVar 0)) (gN 2)
  (sSet 1 (eIf (tVal (eBin dGt (eCall m_sign_in (aCons (eCall m_minus (aCons (eVar 2) (aCons (eVar 1) aNil))) aNil)) (eC (.int 0)))) (eVar 2) (eVar 1))))
  (sRet (eVar 1))))
def m_greatest_in : List D → M D := fnM 1 3 S_greatest_in
def S_square_in : SM :=
  (sSeq (sAsg (gTn 2 (gsCons (gN 1) (gsCons (gN 2) gsNil))) (eSl dSl (eVar 0) oNone (oSome (eC (.int 2)))))
  (sSeq (sSet 3 (eBin dAdd (eBin dAdd (eBin dAdd (eBin dMul (eBin dItem (eVar 1) (eC (.int 0))) (eBin dItem (eVar 1) (eC (.int 0)))) (eBin dMul (eBin dMul (eC (.int 2)) (eBin dItem (eVar 1) (eC (.int 1)))) (eBin dItem (eVar 1) (eC (.int 1))))) (eBin dMul (eBin dItem (eVar 2) (eC (.int 0))) (eBin dItem (eVar 2) (eC (.int 0))))) (eBin dMul (eBin dMul (eC (.int 2)) (eBin dItem (eVar 2) (eC (.int 1)))) (eBin dItem (eVar 2) (eC (.int 1))))))
  (sRet (eTup (aCons (eVar 3) (aCons (eBin dAdd (eBin dMul (eBin dMul (eC (.int 2)) (eBin dItem (eVar 1) (eC (.int 0)))) (eBin dItem (eVar 1) (eC (.int 1)))) (eBin dMul (eBin dMul (eC (.int 2)) (eBin dItem (eVar 2) (eC (.int 0)))) (eBin dItem (eVar 2) (eC (.int 1))))) aNil))))))
def m_square_in : List D → M D := fnM 1 4 S_square_in
def S_sign_of : SM :=
  (sSeq (sExpr (eCall m_need_number (aCons (eVar 0) aNil)))
  (sRet (eCall m_sign_in (aCons (eVar 0) aNil))))
def m_sign_of : List D → M D := fnM 1 1 S_sign_of
def S_whole_of : SM :=
  (sSeq (sExpr (eCall m_need_number (aCons (eVar 0) aNil)))
  (sRet (eCall m_whole_in (aCons (eVar 0) aNil))))
def m_whole_of : List D → M D := fnM 1 1 S_whole_of
def S_is_less : SM :=
  (sSeq (sExpr (eCall m_need_number (aCons (eVar 0) aNil)))
  (sSeq (sExpr (eCall m_need_number (aCons (eVar 1) aNil)))
  (sRet (eBin dLt (eCall m_sign_in (aCons (eCall m_minus (aCons (eVar 0) (aCons (eVar 1) aNil))) aNil)) (eC (.int 0))))))
def m_is_less : List D → M D := fnM 2 2 S_is_less
def S_product : SM :=
  (sSeq (sExpr (eCall m_need_number (aCons (eVar 0) aNil)))
  (sSeq (sExpr (eCall m_need_number (aCons (eVar 1) aNil)))
  (sRet (eTup (aCons (eBin dAdd (eBin dMul (eBin dItem (eVar 0) (eC (.int 0))) (eBin dItem (eVar 1) (eC (.int 0)))) (eBin dMul (eBin dMul (eC (.int 2)) (eBin dItem (eVar 0) (eC (.int 1)))) (eBin dItem (eVar 1) (eC (.int 1))))) (aCons (eBin dAdd (eBin dMul (eBin dItem (eVar 0) (eC (.int 0))) (eBin dItem (eVar 1) (eC (.int 1)))) (eBin dMul (eBin dItem (eVar 0) (eC (.int 1))) (eBin dItem (eVar 1) (eC (.int 0))))) aNil))))))
def m_product : List D → M D := fnM 2 2 S_product
def S_box_by_eighths : SM :=
  (sSeq (sExpr (eCall m_need_eighths (aCons (eVar 0) aNil)))
  (sSeq (sSet 1 (eCall m_along_in (aCons (eVar 0) aNil)))
  (sSeq (sPar 2 3 (aCons (eLC [4] (iSeq (eVar 1)) (gN 4) tTrue (eBin dItem (eVar 4) (eC (.int 0)))) (aCons (eLC [4] (iSeq (eVar 1)) (gN 4) tTrue (eBin dItem (eVar 4) (eC (.int 1)))) aNil)))
  (sRet (eTup (aCons (eCall m_least_in (aCons (eVar 2) aNil)) (aCons (eCall m_greatest_in (aCons (eVar 2) aNil)) (aCons (eCall m_least_in (aCons (eVar 3) aNil)) (aCons (eCall m_greatest_in (aCons (eVar 3) aNil)) aNil)))))))))
def m_box_by_eighths : List D → M D := fnM 1 5 S_box_by_eighths
def S_far_squared : SM :=
  (sSeq (sExpr (eCall m_need_eighths (aCons (eVar 0) aNil)))
  (sRet (eCall m_square_in (aCons (eBin dItem (eCall m_along_in (aCons (eVar 0) aNil)) (eUn dNeg (eC (.int 1)))) aNil))))
def m_far_squared : List D → M D := fnM 1 1 S_far_squared
def S_farthest_place : SM :=
  (sSeq (sExpr (eCall m_need_eighths (aCons (eVar 0) aNil)))
  (sSeq (sSetZ 1 (eLC [2] (iSeq (eCall m_along_in (aCons (eVar 0) aNil))) (gN 2) tTrue (eCall m_square_in (aCons (eVar 2) aNil))))
  (sRet (eMeth "list" dLIndex (eVar 1) (aCons (eCall m_greatest_in (aCons (eVar 1) aNil)) aNil)))))
def m_farthest_place : List D → M D := fnM 1 3 S_farthest_place
def S_cell_of : SM :=
  (sSeq (sExpr (eCall m_need_eighths (aCons (eVar 0) aNil)))
  (sSeq (sAsg (gTn 3 (gsCons (gN 1) (gsCons (gN 2) (gsCons (gN 3) gsNil)))) (eBin dItem (eCall m_along_in (aCons (eVar 0) aNil)) (eUn dNeg (eC (.int 1)))))
  (sRet (eTup (aCons (eCall m_whole_in (aCons (eVar 1) aNil)) (aCons (eCall m_whole_in (aCons (eVar 2) aNil)) aNil))))))
def m_cell_of : List D → M D := fnM 1 4 S_cell_of
def m_law_cup : List D → M D := dCup
def m_law_roll : List D → M D := dRollW
def S_law_some : SM :=
  (sRet (eBin dItem (eVar 1) (eCall m_law_roll (aCons (eVar 0) (aCons (eCall dLen (aCons (eVar 1) aNil)) aNil)))))
def m_law_some : List D → M D := fnM 2 2 S_law_some
def S_law_same (mrec : List D → M D) : SM :=
  (sSeq (sIf (tOr (tVal (eCall dIsi (aCons (eVar 1) (aCons (eC (.ty "tuple")) aNil)))) (tVal (eCall dIsi (aCons (eVar 1) (aCons (eC (.ty "list")) aNil)))))
  (sSeq (sIf (tOr (tVal (eBin dNe (eCall dIsi (aCons (eVar 0) (aCons (eC (.ty "tuple")) aNil))) (eCall dIsi (aCons (eVar 1) (aCons (eC (.ty "tuple")) aNil))))) (tOr (tVal (eBin dNe (eCall dIsi (aCons (eVar 0) (aCons (eC (.ty "list")) aNil))) (eCall dIsi (aCons (eVar 1) (aCons (eC (.ty "list")) aNil))))) (tVal (eBin dNe (eCall dLen (aCons (eVar 0) aNil)) (eCall dLen (aCons (eVar 1) aNil))))))
  (sRet (eC (.bl false)))
  sNil)
  (sRet (eBin dEq (eLC [2] (iRng1m (aCons (eCall dLen (aCons (eVar 1) aNil)) aNil)) (gN 2) (tNot (tVal (eCall mrec (aCons (eBin dItem (eVar 0) (eVar 2)) (aCons (eBin dItem (eVar 1) (eVar 2)) aNil))))) (eC (.int 1))) (eLst aNil))))
  sNil)
  (sSeq (sIf (tVal (eBin dIs (eVar 1) (eC .non)))
  (sRet (eBin dIs (eVar 0) (eC .non)))
  sNil)
  (sSeq (sIf (tVal (eCall dIsi (aCons (eVar 1) (aCons (eC (.ty "bool")) aNil))))
  (sRet (eIf (tVal (eVar 1)) (eBin dIs (eVar 0) (eC (.bl true))) (eBin dIs (eVar 0) (eC (.bl false)))))
  sNil)
  (sSeq (sIf (tVal (eCall dIsi (aCons (eVar 1) (aCons (eC (.ty "int")) aNil))))
  (sRet (eAnd (eCall dIsi (aCons (eVar 0) (aCons (eC (.ty "int")) aNil))) (eAnd (eNot (eCall dIsi (aCons (eVar 0) (aCons (eC (.ty "bool")) aNil)))) (eBin dEq (eCall dInt (aCons (eVar 0) aNil)) (eVar 1)))))
  sNil)
  (sRet (eAnd (eCall dIsi (aCons (eVar 0) (aCons (eC (.ty "str")) aNil))) (eBin dEq (eCall dStr (aCons (eVar 0) aNil)) (eVar 1))))))))
def mf_law_same : Nat → List D → M D
  | 0 => fun _ => stuck
  | k + 1 => fnM 2 3 (S_law_same (mf_law_same k))
def m_law_same : List D → M D := mf_law_same 12
def S_law_word : SM :=
  (sRet (eMeth "str" dJoin (eC (.str [])) (aCons (eLC [2] (iRng1m (aCons (eCall m_law_roll (aCons (eVar 0) (aCons (eBin dAdd (eVar 1) (eC (.int 1))) aNil))) aNil)) (gN 2) tTrue (eCall m_law_some (aCons (eVar 0) (aCons (eLst (aCons (eC (.str [115])) (aCons (eC (.str [108])) (aCons (eC (.str [114])) aNil)))) aNil)))) aNil)))
def m_law_word : List D → M D := fnM 2 3 S_law_word
def S_law_times : SM :=
  (sSeq (sSet 2 (eCall dList (aCons (eVar 0) aNil)))
  (sSeq (sFor (iRng1m (aCons (eBin dMod (eCall dInt (aCons (eVar 1) aNil)) (eC (.int 8))) aNil)) (gN 3)
  (sSet 2 (eBin dAdd (eLst (aCons (eUn dNeg (eBin dItem (eVar 2) (eC (.int 3)))) aNil)) (eSl dSl (eVar 2) oNone (oSome (eC (.int 3)))))))
  (sRet (eCall dTuple (aCons (eVar 2) aNil)))))
def m_law_times : List D → M D := fnM 2 4 S_law_times
def S_law_add : SM :=
  (sRet (eCall dTuple (aCons (eLC [2, 3] (iZipU (aCons (eVar 0) (aCons (eVar 1) aNil))) (gTn 2 (gsCons (gN 2) (gsCons (gN 3) gsNil))) tTrue (eBin dAdd (eVar 2) (eVar 3))) aNil)))
def m_law_add : List D → M D := fnM 2 4 S_law_add
def S_law_step : SM :=
  (sSeq (sIf (tVal (eBin dEq (eVar 2) (eC (.str [115]))))
  (sRet (eTup (aCons (eCall m_law_add (aCons (eVar 0) (aCons (eCall m_law_times (aCons (eTup (aCons (eC (.int 1)) (aCons (eC (.int 0)) (aCons (eC (.int 0)) (aCons (eC (.int 0)) aNil))))) (aCons (eVar 1) aNil))) aNil))) (aCons (eVar 1) aNil))))
  sNil)
  (sSeq (sSet 3 (eIf (tVal (eBin dEq (eVar 2) (eC (.str [108])))) (eC (.int 1)) (eUn dNeg (eC (.int 1)))))
  (sSeq (sSet 4 (eCall m_law_add (aCons (eCall m_law_times (aCons (eTup (aCons (eC (.int 1)) (aCons (eC (.int 0)) (aCons (eC (.int 0)) (aCons (eC (.int 0)) aNil))))) (aCons (eBin dSub (eVar 1) (eVar 3)) aNil))) (aCons (eCall m_law_times (aCons (eTup (aCons (eC (.int 1)) (aCons (eC (.int 0)) (aCons (eC (.int 0)) (aCons (eC (.int 0)) aNil))))) (aCons (eBin dAdd (eBin dSub (eVar 1) (eBin dMul (eC (.int 2)) (eVar 3))) (eC (.int 4))) aNil))) aNil))))
  (sRet (eTup (aCons (eCall m_law_add (aCons (eVar 0) (aCons (eVar 4) aNil))) (aCons (eBin dMod (eCall dInt (aCons (eBin dAdd (eVar 1) (eVar 3)) aNil)) (eC (.int 8))) aNil)))))))
def m_law_step : List D → M D := fnM 3 5 S_law_step
def S_law_told_of : SM :=
  (sRet (eTup (aCons (eTup (aCons (eBin dMul (eC (.int 2)) (eBin dItem (eVar 0) (eC (.int 0)))) (aCons (eBin dSub (eBin dItem (eVar 0) (eC (.int 1))) (eBin dItem (eVar 0) (eC (.int 3)))) aNil))) (aCons (eTup (aCons (eBin dMul (eC (.int 2)) (eBin dItem (eVar 0) (eC (.int 2)))) (aCons (eBin dAdd (eBin dItem (eVar 0) (eC (.int 1))) (eBin dItem (eVar 0) (eC (.int 3)))) aNil))) (aCons (eVar 1) aNil)))))
def m_law_told_of : List D → M D := fnM 2 2 S_law_told_of
def S_law_trail : SM :=
  (sSeq (sSetO 1 (eLst (aCons (eTup (aCons (eTup (aCons (eC (.int 0)) (aCons (eC (.int 0)) (aCons (eC (.int 0)) (aCons (eC (.int 0)) aNil))))) (aCons (eC (.int 0)) aNil))) aNil)))
  (sSeq (sFor (iSeq (eVar 0)) (gN 2)
  (sAppend 1 (eCall m_law_step (aCons (eBin dItem (eBin dItem (eVarB 1) (eUn dNeg (eC (.int 1)))) (eC (.int 0))) (aCons (eBin dItem (eBin dItem (eVarB 1) (eUn dNeg (eC (.int 1)))) (eC (.int 1))) (aCons (eVar 2) aNil))))))
  (sFrz 1 (sRet (eVar 1)))))
def m_law_trail : List D → M D := fnM 1 3 S_law_trail
def S_law_root : SM :=
  (sSeq (sPar 1 2 (aCons (eC (.int 0)) (aCons (eC (.int 1)) aNil)))
  (sSeq (sWhile (tVal (eBin dLe (eBin dMul (eVar 2) (eVar 2)) (eVar 0)))
  (sSet 2 (eBin dMul (eC (.int 2)) (eVar 2))))
  (sSeq (sWhile (tVal (eBin dGt (eVar 2) (eC (.int 0))))
  (sPar 1 2 (aCons (eIf (tVal (eBin dLe (eBin dMul (eBin dAdd (eVar 1) (eVar 2)) (eBin dAdd (eVar 1) (eVar 2))) (eVar 0))) (eBin dAdd (eVar 1) (eVar 2)) (eVar 1)) (aCons (eBin dDiv (eVar 2) (eC (.int 2))) aNil))))
  (sRet (eVar 1)))))
def m_law_root : List D → M D := fnM 1 3 S_law_root
def S_law_sign : SM :=
  (sSeq (sPar 1 2 (aCons (eBin dItem (eVar 0) (eC (.int 0))) (aCons (eCall m_law_root (aCons (eBin dMul (eBin dMul (eC (.int 2)) (eBin dItem (eVar 0) (eC (.int 1)))) (eBin dItem (eVar 0) (eC (.int 1)))) aNil)) aNil)))
  (sSeq (sIf (tVal (eBin dEq (eBin dItem (eVar 0) (eC (.int 1))) (eC (.int 0))))
  (sRet (eIf (tVal (eBin dGt (eVar 1) (eC (.int 0)))) (eC (.int 1)) (eIf (tVal (eBin dLt (eVar 1) (eC (.int 0)))) (eUn dNeg (eC (.int 1))) (eC (.int 0)))))
  sNil)
  (sSeq (sIf (tVal (eBin dGt (eBin dItem (eVar 0) (eC (.int 1))) (eC (.int 0))))
  (sRet (eIf (tVal (eBin dGe (eVar 1) (eUn dNeg (eVar 2)))) (eC (.int 1)) (eUn dNeg (eC (.int 1)))))
  sNil)
  (sRet (eIf (tVal (eBin dGt (eVar 1) (eVar 2))) (eC (.int 1)) (eUn dNeg (eC (.int 1))))))))
def m_law_sign : List D → M D := fnM 1 3 S_law_sign
def S_law_less : SM :=
  (sRet (eBin dLt (eCall m_law_sign (aCons (eTup (aCons (eBin dSub (eBin dItem (eVar 0) (eC (.int 0))) (eBin dItem (eVar 1) (eC (.int 0)))) (aCons (eBin dSub (eBin dItem (eVar 0) (eC (.int 1))) (eBin dItem (eVar 1) (eC (.int 1)))) aNil))) aNil)) (eC (.int 0))))
def m_law_less : List D → M D := fnM 2 2 S_law_less
def S_law_number : SM :=
  (sSeq (sSet 1 (eCall m_law_some (aCons (eVar 0) (aCons (eLst (aCons (eC (.int 3)) (aCons (eC (.int 50)) (aCons (eBin dPow (eC (.int 10)) (eC (.int 6))) (aCons (eBin dPow (eC (.int 10)) (eC (.int 9))) aNil))))) aNil))))
  (sSeq (sPar 2 3 (aCons (eBin dSub (eCall m_law_roll (aCons (eVar 0) (aCons (eBin dAdd (eBin dMul (eC (.int 2)) (eVar 1)) (eC (.int 1))) aNil))) (eVar 1)) (aCons (eBin dSub (eCall m_law_roll (aCons (eVar 0) (aCons (eBin dAdd (eBin dMul (eC (.int 2)) (eVar 1)) (eC (.int 1))) aNil))) (eVar 1)) aNil)))
  (sSeq (sSet 4 (eBin dSub (eBin dAdd (eBin dMul (eCall m_law_root (aCons (eBin dMul (eBin dMul (eC (.int 2)) (eVar 3)) (eVar 3)) aNil)) (eCall m_law_some (aCons (eVar 0) (aCons (eLst (aCons (eC (.int 1)) (aCons (eUn dNeg (eC (.int 1))) aNil))) aNil)))) (eCall m_law_roll (aCons (eVar 0) (aCons (eC (.int 3)) aNil)))) (eC (.int 1))))
  (sRet (eCall m_law_some (aCons (eVar 0) (aCons (eLst (aCons (eTup (aCons (eVar 2) (aCons (eVar 3) aNil))) (aCons (eIf (tVal (eBin dLe (eCall dMax (aCons (eVar 4) (aCons (eUn dNeg (eVar 4)) aNil))) (eBin dPow (eC (.int 10)) (eC (.int 9))))) (eTup (aCons (eVar 4) (aCons (eVar 3) aNil))) (eTup (aCons (eVar 2) (aCons (eVar 3) aNil)))) aNil))) aNil)))))))
def m_law_number : List D → M D := fnM 1 5 S_law_number
def B1_law : SM :=
  (sIf (tOr (tNot (tVal (eCall m_law_same (aCons (eCall m_product (aCons (eVar 3) (aCons (eVar 4) aNil))) (aCons (eVar 6) aNil))))) (tVal (eBin dNe (eCall m_law_sign (aCons (eVar 6) aNil)) (eBin dMul (eCall m_law_sign (aCons (eVar 3) aNil)) (eCall m_law_sign (aCons (eVar 4) aNil))))))
  (sRet (eC (.bl false)))
  sNil)
def B2_law : SM :=
  (sSeq (sSet 6 (eTup (aCons (eBin dAdd (eBin dMul (eBin dItem (eVar 3) (eC (.int 0))) (eBin dItem (eVar 4) (eC (.int 0)))) (eBin dMul (eBin dMul (eBin dItem (eVar 3) (eC (.int 1))) (eBin dItem (eVar 4) (eC (.int 1)))) (eC (.int 2)))) (aCons (eBin dAdd (eBin dMul (eBin dItem (eVar 3) (eC (.int 1))) (eBin dItem (eVar 4) (eC (.int 0)))) (eBin dMul (eBin dItem (eVar 3) (eC (.int 0))) (eBin dItem (eVar 4) (eC (.int 1))))) aNil))))
  B1_law)
def B3_law : SM :=
  (sSeq (sIf (tOr (tVal (eBin dLt (eCall m_law_sign (aCons (eTup (aCons (eBin dSub (eBin dItem (eVar 3) (eC (.int 0))) (eBin dMul (eC (.int 2)) (eVar 5))) (aCons (eBin dItem (eVar 3) (eC (.int 1))) aNil))) aNil)) (eC (.int 0)))) (tVal (eBin dGe (eCall m_law_sign (aCons (eTup (aCons (eBin dSub (eBin dSub (eBin dItem (eVar 3) (eC (.int 0))) (eBin dMul (eC (.int 2)) (eVar 5))) (eC (.int 2))) (aCons (eBin dItem (eVar 3) (eC (.int 1))) aNil))) aNil)) (eC (.int 0)))))
  (sRet (eC (.bl false)))
  sNil)
  B2_law)
def B4_law : SM :=
  (sSeq (sIf (tOr (tVal (eCall dIsi (aCons (eVar 5) (aCons (eC (.ty "bool")) aNil)))) (tNot (tVal (eCall dIsi (aCons (eVar 5) (aCons (eC (.ty "int")) aNil))))))
  (sRet (eC (.bl false)))
  sNil)
  B3_law)
def B5_law : SM :=
  (sSeq (sSet 5 (eCall m_whole_of (aCons (eVar 3) aNil)))
  B4_law)
def B6_law : SM :=
  (sSeq (sIf (tNot (tVal (eCall m_law_same (aCons (eTup (aCons (eCall m_sign_of (aCons (eVar 3) aNil)) (aCons (eCall m_is_less (aCons (eVar 3) (aCons (eVar 4) aNil))) aNil))) (aCons (eTup (aCons (eCall m_law_sign (aCons (eVar 3) aNil)) (aCons (eCall m_law_less (aCons (eVar 3) (aCons (eVar 4) aNil))) aNil))) aNil)))))
  (sRet (eC (.bl false)))
  sNil)
  B5_law)
def B7_law : SM :=
  (sSeq (sPar 3 4 (aCons (eCall m_law_number (aCons (eVar 1) aNil)) (aCons (eCall m_law_number (aCons (eVar 1) aNil)) aNil)))
  B6_law)
def B8_law : SM :=
  (sIf (tOr (tVal (eBin dNotInA (eBin dItem (eVar 9) (eVar 10)) (eVar 13))) (tVal (eBin dNe (eLC [23] (iSeq (eVar 14)) (gN 23) (tVal (eBin dLt (eCall m_law_sign (aCons (eVar 23) aNil)) (eC (.int 0)))) (eVar 23)) (eLst aNil))))
  (sRet (eC (.bl false)))
  sNil)
def B9_law : SM :=
  (sSeq (sSetZ 14 (eLC [22] (iSeq (eVar 13)) (gN 22) tTrue (eTup (aCons (eBin dMul (eVar 12) (eBin dSub (eBin dItem (eVar 22) (eC (.int 0))) (eBin dItem (eBin dItem (eVar 9) (eVar 10)) (eC (.int 0))))) (aCons (eBin dMul (eVar 12) (eBin dSub (eBin dItem (eVar 22) (eC (.int 1))) (eBin dItem (eBin dItem (eVar 9) (eVar 10)) (eC (.int 1))))) aNil)))))
  B8_law)
def B10_law : SM :=
  (sSeq (sSetZ 13 (eLC [21] (iSeq (eVar 8)) (gN 21) tTrue (eBin dItem (eVar 21) (eVar 11))))
  B9_law)
def B11_law : SM :=
  (sAppend 15 (eTup (aCons (eVar 5) (aCons (eBin dMul (eC (.int 2)) (eBin dAdd (eBin dMul (eBin dItem (eVar 16) (eC (.int 0))) (eBin dItem (eVar 16) (eC (.int 1)))) (eBin dMul (eBin dItem (eVar 17) (eC (.int 0))) (eBin dItem (eVar 17) (eC (.int 1)))))) aNil))))
def B12_law : SM :=
  (sSeq (sSet 5 (eBin dAdd (eBin dAdd (eBin dMul (eBin dItem (eVar 16) (eC (.int 0))) (eBin dItem (eVar 16) (eC (.int 0)))) (eBin dMul (eBin dItem (eVar 17) (eC (.int 0))) (eBin dItem (eVar 17) (eC (.int 0))))) (eBin dMul (eC (.int 2)) (eBin dAdd (eBin dMul (eBin dItem (eVar 16) (eC (.int 1))) (eBin dItem (eVar 16) (eC (.int 1)))) (eBin dMul (eBin dItem (eVar 17) (eC (.int 1))) (eBin dItem (eVar 17) (eC (.int 1))))))))
  B11_law)
def B13_law : SM :=
  (sIf (tNot (tVal (eCall m_law_same (aCons (eCall m_cell_of (aCons (eVar 7) aNil)) (aCons (eTup (aCons (eCall m_whole_of (aCons (eBin dItem (eBin dItem (eVar 8) (eUn dNeg (eC (.int 1)))) (eC (.int 0))) aNil)) (aCons (eCall m_whole_of (aCons (eBin dItem (eBin dItem (eVar 8) (eUn dNeg (eC (.int 1)))) (eC (.int 1))) aNil)) aNil))) aNil)))))
  (sRet (eC (.bl false)))
  sNil)
def B14_law : SM :=
  (sSeq (sIf (tVal (eBin dNe (eLC [22] (iSeq (eSl dSl (eVarB 15) oNone (oSome (eVar 10)))) (gN 22) (tNot (tVal (eCall m_law_less (aCons (eVar 22) (aCons (eBin dItem (eVarB 15) (eVar 10)) aNil))))) (eVar 22)) (eLst aNil)))
  (sRet (eC (.bl false)))
  sNil)
  B13_law)
def B15_law : SM :=
  (sSeq (sIf (tOr (tNot (tVal (eCall m_law_same (aCons (eCall m_far_squared (aCons (eVar 7) aNil)) (aCons (eBin dItem (eVarB 15) (eUn dNeg (eC (.int 1)))) aNil))))) (tVal (eBin dNe (eLC [22] (iSeq (eVarB 15)) (gN 22) (tVal (eCall m_law_less (aCons (eBin dItem (eVarB 15) (eVar 10)) (aCons (eVar 22) aNil)))) (eVar 22)) (eLst aNil))))
  (sRet (eC (.bl false)))
  sNil)
  B14_law)
def B16_law : SM :=
  (sSeq (sSet 10 (eCall m_farthest_place (aCons (eVar 7) aNil)))
  B15_law)
def B17_law : SM :=
  (sSeq (sFor (iSeq (eVar 8)) (gTn 3 (gsCons (gN 16) (gsCons (gN 17) (gsCons (gN 18) gsNil))))
  B12_law)
  B16_law)
def B18_law : SM :=
  (sSeq (sSetO 15 (eLst aNil))
  B17_law)
def B19_law : SM :=
  (sSeq (sFor (iSeq (eTup (aCons (eTup (aCons (eC (.int 0)) (aCons (eC (.int 0)) (aCons (eC (.int 1)) aNil)))) (aCons (eTup (aCons (eC (.int 1)) (aCons (eC (.int 0)) (aCons (eUn dNeg (eC (.int 1))) aNil)))) (aCons (eTup (aCons (eC (.int 2)) (aCons (eC (.int 1)) (aCons (eC (.int 1)) aNil)))) (aCons (eTup (aCons (eC (.int 3)) (aCons (eC (.int 1)) (aCons (eUn dNeg (eC (.int 1))) aNil)))) aNil)))))) (gTn 3 (gsCons (gN 10) (gsCons (gN 11) (gsCons (gN 12) gsNil))))
  B10_law)
  B18_law)
def B20_law : SM :=
  (sSeq (sSet 9 (eCall m_box_by_eighths (aCons (eVar 7) aNil)))
  B19_law)
def B21_law : SM :=
  (sSeq (sSetZ 8 (eLC [20, 18] (iSeq (eCall m_law_trail (aCons (eVar 7) aNil))) (gTn 2 (gsCons (gN 20) (gsCons (gN 18) gsNil))) tTrue (eCall m_law_told_of (aCons (eVar 20) (aCons (eVar 18) aNil)))))
  B20_law)
def B22_law : SM :=
  (sSeq (sSet 7 (eCall m_law_word (aCons (eVar 1) (aCons (eCall m_law_some (aCons (eVar 1) (aCons (eLst (aCons (eC (.int 6)) (aCons (eC (.int 40)) aNil))) aNil))) aNil))))
  B21_law)
def B23_law : SM :=
  (sRet (eCall m_law_same (aCons (eVar 19) (aCons (eTup (aCons (eC (.int 1)) (aCons (eC (.int 1)) (aCons (eC (.int 707106781)) (aCons (eUn dNeg (eC (.int 1))) (aCons (eC (.bl false)) aNil)))))) aNil))))
def B24_law : SM :=
  (sSeq (sSet 19 (eTup (aCons (eCall m_sign_of (aCons (eTup (aCons (eC (.int 665857)) (aCons (eUn dNeg (eC (.int 470832))) aNil))) aNil)) (aCons (eCall m_sign_of (aCons (eTup (aCons (eC (.int 1)) (aCons (eC (.int 0)) aNil))) aNil)) (aCons (eCall m_whole_of (aCons (eTup (aCons (eC (.int 0)) (aCons (eBin dPow (eC (.int 10)) (eC (.int 9))) aNil))) aNil)) (aCons (eCall m_whole_of (aCons (eTup (aCons (eUn dNeg (eC (.int 1))) (aCons (eC (.int 0)) aNil))) aNil)) (aCons (eCall m_is_less (aCons (eTup (aCons (eC (.int 99)) (aCons (eC (.int 0)) aNil))) (aCons (eTup (aCons (eC (.int 0)) (aCons (eC (.int 70)) aNil))) aNil))) aNil)))))))
  B23_law)
def B25_law : SM :=
  (sSeq (sFor (iRng1m (aCons (eC (.int 4)) aNil)) (gN 2)
  B22_law)
  B24_law)
def B26_law : SM :=
  (sSeq (sFor (iRng1m (aCons (eC (.int 10)) aNil)) (gN 2)
  B7_law)
  B25_law)
def B27_law : SM :=
  (sSeq (sSet 1 (eCall m_law_cup (aCons (eVar 0) aNil)))
  B26_law)
def S_law : SM :=
  B27_law
def m_law : List D → M D := fnM 1 24 S_law
end L37
set_option Elab.async false
set_option linter.all false
set_option maxRecDepth 100000
set_option maxHeartbeats 4000000
namespace L37
open PySem PySem.Spec PyProof.Rows L2 G
def top (i : Nat) : Stmt := PySem.Challenge.pw_toyrails_k37_whole_numbers_with_the_root.main.body.getD i (.Pass ⟨0, 0, 0, 0⟩)
section
variable {P : Program} {w : World} {K : PySem.W.Frag} {mg : Str → Option Value} {base : Heap} {f : Addr} {fd : FuncData}
abbrev s_is_whole : Stmt := top 6
theorem sc_is_whole : FnScope ["value"] ["value"] (defScope s_is_whole) := ⟨rfl, rfl, rfl, by decide +kernel, rfl, by decide +kernel, by decide +kernel⟩
theorem ok_is_whole (z : Bt mg) (F : FunD K "is_whole" "is_whole" (defArgs s_is_whole) (defBody s_is_whole) (defScope s_is_whole) [] [] f fd) (hm : mg "is_whole" = some (.ref f)) : Fd P w K mg base "is_whole" 1 m_is_whole :=
  ⟨f, fd, _, fn_ok F sc_is_whole 1 rfl (fun cdv A outer s H E hr => by
    have nd := sc_is_whole.nd
    have hu := hU hr
    unfold S_is_whole
    exact (gss_one (gs_ret (ge_and (ge_callB c_isi z.isinstance (ba_cons (be_ge (ge_var 0)) (ba_cons (be_ge (ge_ty "int" z.int)) ba_nil))) (ge_one (ge_not (ge_callB c_isi z.isinstance (ba_cons (be_ge (ge_var 0)) (ba_cons (be_ge (ge_ty "bool" z.bool)) ba_nil))))))))), hm, F.kp, F.bindsN fun _ _ _ _ _ _ us hl => match us, hl with | [_], _ => rfl⟩
abbrev s_fits_whole : Stmt := top 7
theorem sc_fits_whole : FnScope ["value", "low", "high"] ["value", "low", "high"] (defScope s_fits_whole) := ⟨rfl, rfl, rfl, by decide +kernel, rfl, by decide +kernel, by decide +kernel⟩
theorem ok_fits_whole (z : Bt mg) (h_is_whole : Fd P w K mg base "is_whole" 1 m_is_whole) (F : FunD K "fits_whole" "fits_whole" (defArgs s_fits_whole) (defBody s_fits_whole) (defScope s_fits_whole) [] [] f fd) (hm : mg "fits_whole" = some (.ref f)) : Fd P w K mg base "fits_whole" 2 m_fits_whole :=
  ⟨f, fd, _, fn_ok F sc_fits_whole 3 rfl (fun cdv A outer s H E hr => by
    have nd := sc_fits_whole.nd
    have hu := hU hr
    unfold S_fits_whole
    exact (gss_one (gs_ret (ge_and (ge_f h_is_whole (hr.mono (by decide)) (ga_cons (ge_var 0) ga_nil)) (ge_one (ge_chain op_dLe op_dLe (be_ge (ge_var 1)) (be_ge (ge_var 0)) (be_ge (ge_var 2)))))))), hm, F.kp, F.bindsN fun _ _ _ _ _ _ us hl => match us, hl with | [_, _, _], _ => rfl⟩
abbrev s_is_tuple_of : Stmt := top 8
theorem sc_is_tuple_of : FnScope ["value", "least", "most"] ["value", "least", "most"] (defScope s_is_tuple_of) := ⟨rfl, rfl, rfl, by decide +kernel, rfl, by decide +kernel, by decide +kernel⟩
theorem ok_is_tuple_of (z : Bt mg) (F : FunD K "is_tuple_of" "is_tuple_of" (defArgs s_is_tuple_of) (defBody s_is_tuple_of) (defScope s_is_tuple_of) [] [] f fd) (hm : mg "is_tuple_of" = some (.ref f)) : Fd P w K mg base "is_tuple_of" 1 m_is_tuple_of :=
  ⟨f, fd, _, fn_ok F sc_is_tuple_of 3 rfl (fun cdv A outer s H E hr => by
    have nd := sc_is_tuple_of.nd
    have hu := hU hr
    unfold S_is_tuple_of
    exact (gss_one (gs_ret (ge_and (ge_callB c_isi z.isinstance (ba_cons (be_ge (ge_var 0)) (ba_cons (be_ge (ge_ty "tuple" z.tuple)) ba_nil))) (ge_one (ge_chain op_dLe op_dLe (be_ge (ge_var 1)) (be_ge (ge_callB c_len z.len (ba_cons (be_ge (ge_var 0)) ba_nil))) (be_ge (ge_var 2)))))))), hm, F.kp, F.bindsN fun _ _ _ _ _ _ us hl => match us, hl with | [_, _, _], _ => rfl⟩
abbrev s_plus : Stmt := top 13
theorem sc_plus : FnScope ["one", "other"] ["one", "other"] (defScope s_plus) := ⟨rfl, rfl, rfl, by decide +kernel, rfl, by decide +kernel, by decide +kernel⟩
theorem ok_plus (z : Bt mg) (F : FunD K "plus" "plus" (defArgs s_plus) (defBody s_plus) (defScope s_plus) [] [] f fd) (hm : mg "plus" = some (.ref f)) : Fd P w K mg base "plus" 1 m_plus :=
  ⟨f, fd, _, fn_ok F sc_plus 2 rfl (fun cdv A outer s H E hr => by
    have nd := sc_plus.nd
    have hu := hU hr
    unfold S_plus
    exact (gss_one (gs_ret (ge_tup (ga_cons (ge_op op_dAdd (be_ge (ge_ix (ix_item hu) (be_ge (ge_var 0)) (be_ge ge_int))) (be_ge (ge_ix (ix_item hu) (be_ge (ge_var 1)) (be_ge ge_int)))) (ga_cons (ge_op op_dAdd (be_ge (ge_ix (ix_item hu) (be_ge (ge_var 0)) (be_ge ge_int))) (be_ge (ge_ix (ix_item hu) (be_ge (ge_var 1)) (be_ge ge_int)))) ga_nil)))))), hm, F.kp, F.bindsN fun _ _ _ _ _ _ us hl => match us, hl with | [_, _], _ => rfl⟩
abbrev s_minus : Stmt := top 14
theorem sc_minus : FnScope ["one", "other"] ["one", "other"] (defScope s_minus) := ⟨rfl, rfl, rfl, by decide +kernel, rfl, by decide +kernel, by decide +kernel⟩
theorem ok_minus (z : Bt mg) (F : FunD K "minus" "minus" (defArgs s_minus) (defBody s_minus) (defScope s_minus) [] [] f fd) (hm : mg "minus" = some (.ref f)) : Fd P w K mg base "minus" 1 m_minus :=
  ⟨f, fd, _, fn_ok F sc_minus 2 rfl (fun cdv A outer s H E hr => by
    have nd := sc_minus.nd
    have hu := hU hr
    unfold S_minus
    exact (gss_one (gs_ret (ge_tup (ga_cons (ge_op op_dSub (be_ge (ge_ix (ix_item hu) (be_ge (ge_var 0)) (be_ge ge_int))) (be_ge (ge_ix (ix_item hu) (be_ge (ge_var 1)) (be_ge ge_int)))) (ga_cons (ge_op op_dSub (be_ge (ge_ix (ix_item hu) (be_ge (ge_var 0)) (be_ge ge_int))) (be_ge (ge_ix (ix_item hu) (be_ge (ge_var 1)) (be_ge ge_int)))) ga_nil)))))), hm, F.kp, F.bindsN fun _ _ _ _ _ _ us hl => match us, hl with | [_, _], _ => rfl⟩
abbrev s_cosine : Stmt := top 15
theorem sc_cosine : FnScope ["way"] ["way"] (defScope s_cosine) := ⟨rfl, rfl, rfl, by decide +kernel, rfl, by decide +kernel, by decide +kernel⟩
theorem ok_cosine (z : Bt mg) (cCOSINES : Gc K mg "COSINES" c_COSINES) (F : FunD K "cosine" "cosine" (defArgs s_cosine) (defBody s_cosine) (defScope s_cosine) [] [] f fd) (hm : mg "cosine" = some (.ref f)) : Fd P w K mg base "cosine" 1 m_cosine :=
  ⟨f, fd, _, fn_ok F sc_cosine 1 rfl (fun cdv A outer s H E hr => by
    have nd := sc_cosine.nd
    have hu := hU hr
    unfold S_cosine
    exact (gss_one (gs_ret (ge_ix (ix_item hu) (be_ge (ge_gc cCOSINES)) (be_ge (ge_op op_dMod (be_ge (ge_var 0)) (be_ge ge_int))))))), hm, F.kp, F.bindsN fun _ _ _ _ _ _ us hl => match us, hl with | [_], _ => rfl⟩
abbrev s_sine : Stmt := top 16
theorem sc_sine : FnScope ["way"] ["way"] (defScope s_sine) := ⟨rfl, rfl, rfl, by decide +kernel, rfl, by decide +kernel, by decide +kernel⟩
theorem ok_sine (z : Bt mg) (cCOSINES : Gc K mg "COSINES" c_COSINES) (F : FunD K "sine" "sine" (defArgs s_sine) (defBody s_sine) (defScope s_sine) [] [] f fd) (hm : mg "sine" = some (.ref f)) : Fd P w K mg base "sine" 1 m_sine :=
  ⟨f, fd, _, fn_ok F sc_sine 1 rfl (fun cdv A outer s H E hr => by
    have nd := sc_sine.nd
    have hu := hU hr
    unfold S_sine
    exact (gss_one (gs_ret (ge_ix (ix_item hu) (be_ge (ge_gc cCOSINES)) (be_ge (ge_op op_dMod (be_ge (ge_op op_dAdd (be_ge (ge_var 0)) (be_ge ge_int))) (be_ge ge_int))))))), hm, F.kp, F.bindsN fun _ _ _ _ _ _ us hl => match us, hl with | [_], _ => rfl⟩
abbrev s_root_below : Stmt := top 17
theorem sc_root_below : FnScope ["number", "low", "high", "middle"] ["number"] (defScope s_root_below) := ⟨rfl, rfl, rfl, by decide +kernel, rfl, by decide +kernel, by decide +kernel⟩
theorem ok_root_below (z : Bt mg) (F : FunD K "root_below" "root_below" (defArgs s_root_below) (defBody s_root_below) (defScope s_root_below) [] [] f fd) (hm : mg "root_below" = some (.ref f)) : Fd P w K mg base "root_below" 1 m_root_below :=
  ⟨f, fd, _, fn_ok F sc_root_below 1 rfl (fun cdv A outer s H E hr => by
    have nd := sc_root_below.nd
    have hu := hU hr
    unfold S_root_below
    exact (gss_cons (gs_par 1 2 rfl nd (ga_cons ge_int (ga_cons (ge_op op_dAdd (be_ge (ge_var 0)) (be_ge ge_int)) ga_nil)) (h := ps_par rfl nd rfl rfl (by decide) rfl rfl (ga_cons ge_int (ga_cons (ge_op op_dAdd (be_ge (ge_var 0)) (be_ge ge_int)) ga_nil)) (by rfl)))
  (gss_cons (gs_while PassesOwn.never (gt_cmp op_dGt (be_ge (ge_op op_dSub (be_ge (ge_var 2)) (be_ge (ge_var 1)))) (be_ge ge_int) (nomark _))
  (gss_cons (gs_set 3 nd (ge_op op_dDiv (be_ge (ge_op op_dAdd (be_ge (ge_var 1)) (be_ge (ge_var 2)))) (be_ge ge_int)))
  (gss_one (gs_asg (ge_if (gt_cmp op_dLe (be_ge (ge_op op_dMul (be_ge (ge_var 3)) (be_ge (ge_var 3)))) (be_ge (ge_var 0)) (nomark _)) (ge_tup (ga_cons (ge_var 3) (ga_cons (ge_var 2) ga_nil))) (ge_tup (ga_cons (ge_var 1) (ga_cons (ge_var 3) ga_nil)))) (gg_tup 2 (pg_tup rfl (ggs_cons (gg_name 1 nd) (ggs_cons (gg_name 2 nd) ggs_nil))))))))
  (gss_one (gs_ret (ge_var 1)))))), hm, F.kp, F.bindsN fun _ _ _ _ _ _ us hl => match us, hl with | [_], _ => rfl⟩
abbrev s_sign_in : Stmt := top 18
theorem sc_sign_in : FnScope ["number", "whole", "root", "great"] ["number"] (defScope s_sign_in) := ⟨rfl, rfl, rfl, by decide +kernel, rfl, by decide +kernel, by decide +kernel⟩
theorem ok_sign_in (z : Bt mg) (F : FunD K "sign_in" "sign_in" (defArgs s_sign_in) (defBody s_sign_in) (defScope s_sign_in) [] [] f fd) (hm : mg "sign_in" = some (.ref f)) : Fd P w K mg base "sign_in" 1 m_sign_in :=
  ⟨f, fd, _, fn_ok F sc_sign_in 1 rfl (fun cdv A outer s H E hr => by
    have nd := sc_sign_in.nd
    have hu := hU hr
    unfold S_sign_in
    exact (gss_cons (gs_asg (ge_var 0) (gg_tup 2 (pg_tup rfl (ggs_cons (gg_name 1 nd) (ggs_cons (gg_name 2 nd) ggs_nil)))))
  (gss_cons (gs_if (gt_w (gw_and (gt_cmp op_dGe (be_ge (ge_var 1)) (be_ge ge_int) (nomark _)) (gw_and1 (gt_cmp op_dGe (be_ge (ge_var 2)) (be_ge ge_int) (nomark _)))))
  (gss_one (gs_ret (ge_callTy c_int z.int (ba_cons (be_ge (ge_or (ge_cmp op_dGt (be_ge (ge_var 1)) (be_ge ge_int) (nomark _)) (ge_one (ge_cmp op_dGt (be_ge (ge_var 2)) (be_ge ge_int) (nomark _))))) ba_nil))))
  gss_nil)
  (gss_cons (gs_if (gt_w (gw_and (gt_cmp op_dLe (be_ge (ge_var 1)) (be_ge ge_int) (nomark _)) (gw_and1 (gt_cmp op_dLe (be_ge (ge_var 2)) (be_ge ge_int) (nomark _)))))
  (gss_one (gs_ret (ge_un op_dNeg (be_ge ge_int))))
  gss_nil)
  (gss_cons (gs_set 3 nd (ge_cmp op_dGt (be_ge (ge_op op_dMul (be_ge (ge_var 1)) (be_ge (ge_var 1)))) (be_ge (ge_op op_dMul (be_ge (ge_op op_dMul (be_ge ge_int) (be_ge (ge_var 2)))) (be_ge (ge_var 2)))) (nomark _)))
  (gss_one (gs_ret (ge_if (gt_cmp (op_dEq hu) (be_ge (ge_cmp op_dGt (be_ge (ge_var 1)) (be_ge ge_int) (nomark _))) (be_ge (ge_var 3)) (nomark _)) ge_int (ge_un op_dNeg (be_ge ge_int)))))))))), hm, F.kp, F.bindsN fun _ _ _ _ _ _ us hl => match us, hl with | [_], _ => rfl⟩
abbrev s_whole_in : Stmt := top 19
theorem sc_whole_in : FnScope ["number", "whole", "root", "part"] ["number"] (defScope s_whole_in) := ⟨rfl, rfl, rfl, by decide +kernel, rfl, by decide +kernel, by decide +kernel⟩
theorem ok_whole_in (z : Bt mg) (h_root_below : Fd P w K mg base "root_below" 1 m_root_below) (F : FunD K "whole_in" "whole_in" (defArgs s_whole_in) (defBody s_whole_in) (defScope s_whole_in) [] [] f fd) (hm : mg "whole_in" = some (.ref f)) : Fd P w K mg base "whole_in" 2 m_whole_in :=
  ⟨f, fd, _, fn_ok F sc_whole_in 1 rfl (fun cdv A outer s H E hr => by
    have nd := sc_whole_in.nd
    have hu := hU hr
    unfold S_whole_in
    exact (gss_cons (gs_asg (ge_var 0) (gg_tup 2 (pg_tup rfl (ggs_cons (gg_name 1 nd) (ggs_cons (gg_name 2 nd) ggs_nil)))))
  (gss_cons (gs_set 3 nd (ge_f h_root_below (hr.mono (by decide)) (ga_cons (ge_op op_dMul (be_ge (ge_op op_dMul (be_ge ge_int) (be_ge (ge_var 2)))) (be_ge (ge_var 2))) ga_nil)))
  (gss_one (gs_ret (ge_if (gt_cmp op_dGe (be_ge (ge_var 2)) (be_ge ge_int) (nomark _)) (ge_op op_dDiv (be_ge (ge_op op_dAdd (be_ge (ge_var 1)) (be_ge (ge_var 3)))) (be_ge ge_int)) (ge_op op_dDiv (be_ge (ge_op op_dSub (be_ge (ge_op op_dSub (be_ge (ge_var 1)) (be_ge (ge_var 3)))) (be_ge ge_int))) (be_ge ge_int)))))))), hm, F.kp, F.bindsN fun _ _ _ _ _ _ us hl => match us, hl with | [_], _ => rfl⟩
abbrev s_behind_in : Stmt := top 20
theorem sc_behind_in : FnScope ["place", "piece", "right", "up", "way", "low"] ["place", "piece"] (defScope s_behind_in) := ⟨rfl, rfl, rfl, by decide +kernel, rfl, by decide +kernel, by decide +kernel⟩
theorem ok_behind_in (z : Bt mg) (h_plus : Fd P w K mg base "plus" 1 m_plus) (h_sine : Fd P w K mg base "sine" 1 m_sine) (h_cosine : Fd P w K mg base "cosine" 1 m_cosine) (h_minus : Fd P w K mg base "minus" 1 m_minus) (F : FunD K "behind_in" "behind_in" (defArgs s_behind_in) (defBody s_behind_in) (defScope s_behind_in) [] [] f fd) (hm : mg "behind_in" = some (.ref f)) : Fd P w K mg base "behind_in" 2 m_behind_in :=
  ⟨f, fd, _, fn_ok F sc_behind_in 2 rfl (fun cdv A outer s H E hr => by
    have nd := sc_behind_in.nd
    have hu := hU hr
    unfold S_behind_in
    exact (gss_cons (gs_asg (ge_var 0) (gg_tup 3 (pg_tup rfl (ggs_cons (gg_name 2 nd) (ggs_cons (gg_name 3 nd) (ggs_cons (gg_name 4 nd) ggs_nil))))))
  (gss_cons (gs_if (gt_cmp (op_dEq hu) (be_ge (ge_var 1)) (be_ge (ge_str [115])) (nomark _))
  (gss_one (gs_ret (ge_tup (ga_cons (ge_f h_plus (hr.mono (by decide)) (ga_cons (ge_var 2) (ga_cons (ge_f h_cosine (hr.mono (by decide)) (ga_cons (ge_var 4) ga_nil)) ga_nil))) (ga_cons (ge_f h_plus (hr.mono (by decide)) (ga_cons (ge_var 3) (ga_cons (ge_f h_sine (hr.mono (by decide)) (ga_cons (ge_var 4) ga_nil)) ga_nil))) (ga_cons (ge_var 4) ga_nil))))))
  gss_nil)
  (gss_cons (gs_set 5 nd (ge_if (gt_cmp (op_dEq hu) (be_ge (ge_var 1)) (be_ge (ge_str [108])) (nomark _)) (ge_var 4) (ge_op op_dSub (be_ge (ge_var 4)) (be_ge ge_int))))
  (gss_cons (gs_par 2 3 rfl nd (ga_cons (ge_f h_plus (hr.mono (by decide)) (ga_cons (ge_var 2) (ga_cons (ge_f h_minus (hr.mono (by decide)) (ga_cons (ge_f h_sine (hr.mono (by decide)) (ga_cons (ge_op op_dAdd (be_ge (ge_var 5)) (be_ge ge_int)) ga_nil)) (ga_cons (ge_f h_sine (hr.mono (by decide)) (ga_cons (ge_var 5) ga_nil)) ga_nil))) ga_nil))) (ga_cons (ge_f h_plus (hr.mono (by decide)) (ga_cons (ge_var 3) (ga_cons (ge_f h_minus (hr.mono (by decide)) (ga_cons (ge_f h_cosine (hr.mono (by decide)) (ga_cons (ge_var 5) ga_nil)) (ga_cons (ge_f h_cosine (hr.mono (by decide)) (ga_cons (ge_op op_dAdd (be_ge (ge_var 5)) (be_ge ge_int)) ga_nil)) ga_nil))) ga_nil))) ga_nil)) (h := ps_par rfl nd rfl rfl (by decide) rfl rfl (ga_cons (ge_f h_plus (hr.mono (by decide)) (ga_cons (ge_var 2) (ga_cons (ge_f h_minus (hr.mono (by decide)) (ga_cons (ge_f h_sine (hr.mono (by decide)) (ga_cons (ge_op op_dAdd (be_ge (ge_var 5)) (be_ge ge_int)) ga_nil)) (ga_cons (ge_f h_sine (hr.mono (by decide)) (ga_cons (ge_var 5) ga_nil)) ga_nil))) ga_nil))) (ga_cons (ge_f h_plus (hr.mono (by decide)) (ga_cons (ge_var 3) (ga_cons (ge_f h_minus (hr.mono (by decide)) (ga_cons (ge_f h_cosine (hr.mono (by decide)) (ga_cons (ge_var 5) ga_nil)) (ga_cons (ge_f h_cosine (hr.mono (by decide)) (ga_cons (ge_op op_dAdd (be_ge (ge_var 5)) (be_ge ge_int)) ga_nil)) ga_nil))) ga_nil))) ga_nil)) (by rfl)))
  (gss_one (gs_ret (ge_tup (ga_cons (ge_var 2) (ga_cons (ge_var 3) (ga_cons (ge_op op_dMod (be_ge (ge_if (gt_cmp (op_dEq hu) (be_ge (ge_var 1)) (be_ge (ge_str [108])) (nomark _)) (ge_op op_dAdd (be_ge (ge_var 4)) (be_ge ge_int)) (ge_op op_dAdd (be_ge (ge_var 4)) (be_ge ge_int)))) (be_ge ge_int)) ga_nil))))))))))), hm, F.kp, F.bindsN fun _ _ _ _ _ _ us hl => match us, hl with | [_, _], _ => rfl⟩
abbrev s_along_in : Stmt := top 21
theorem sc_along_in : FnScope ["word", "found", "piece"] ["word"] (defScope s_along_in) := ⟨rfl, rfl, rfl, by decide +kernel, rfl, by decide +kernel, by decide +kernel⟩
theorem ok_along_in (z : Bt mg) (h_behind_in : Fd P w K mg base "behind_in" 2 m_behind_in) (F : FunD K "along_in" "along_in" (defArgs s_along_in) (defBody s_along_in) (defScope s_along_in) [] [] f fd) (hm : mg "along_in" = some (.ref f)) : Fd P w K mg base "along_in" 3 m_along_in :=
  ⟨f, fd, _, fn_ok F sc_along_in 1 rfl (fun cdv A outer s H E hr => by
    have nd := sc_along_in.nd
    have hu := hU hr
    unfold S_along_in
    exact (gss_cons (gs_setO 1 nd (fe_lst (ga_cons (ge_tup (ga_cons (ge_tup (ga_cons ge_int (ga_cons ge_int ga_nil))) (ga_cons (ge_tup (ga_cons ge_int (ga_cons ge_int ga_nil))) (ga_cons ge_int ga_nil)))) ga_nil)))
  (gss_cons (gs_for PassesOwn.never rfl (gi_seq (ge_var 0)) (gg_name 2 nd)
  (gss_one (gs_append 1 (pe_bm PySem.F.plainAttrs_list PySem.F.slot_list_append PySem.F.type_list_append mt_append (pv 1) (pa_cons (ge_f h_behind_in (hr.mono (by decide)) (ga_cons (ge_ix (ix_item hu) (be_var 1) (be_ge (ge_un op_dNeg (be_ge ge_int)))) (ga_cons (ge_var 2) ga_nil))) pa_nil)))))
  (gss_one (gs_frz 1 (gs_ret (ge_var 1))))))), hm, F.kp, F.bindsN fun _ _ _ _ _ _ us hl => match us, hl with | [_], _ => rfl⟩
abbrev s_fits_eighths : Stmt := top 22
theorem sc_fits_eighths : FnScope ["value", "piece"] ["value"] (defScope s_fits_eighths) := ⟨rfl, rfl, rfl, by decide +kernel, rfl, by decide +kernel, by decide +kernel⟩
theorem ok_fits_eighths (z : Bt mg) (cLONG : Gc K mg "LONG" c_LONG) (cPIECES : Gc K mg "PIECES" c_PIECES) (F : FunD K "fits_eighths" "fits_eighths" (defArgs s_fits_eighths) (defBody s_fits_eighths) (defScope s_fits_eighths) [] [] f fd) (hm : mg "fits_eighths" = some (.ref f)) : Fd P w K mg base "fits_eighths" 1 m_fits_eighths :=
  ⟨f, fd, _, fn_ok F sc_fits_eighths 1 rfl (fun cdv A outer s H E hr => by
    have nd := sc_fits_eighths.nd
    have hu := hU hr
    unfold S_fits_eighths
    exact (gss_one (gs_ret (ge_and (ge_callB c_isi z.isinstance (ba_cons (be_ge (ge_var 0)) (ba_cons (be_ge (ge_ty "str" z.str)) ba_nil))) (ge_and (ge_cmp op_dLe (be_ge (ge_callB c_len z.len (ba_cons (be_ge (ge_var 0)) ba_nil))) (be_ge (ge_gc cLONG)) (nomark _)) (ge_one (ge_callB (c_all rfl) z.all (ba_cons (be_fe (fe_lc (own := [("piece", 1)]) rfl nd (bi_seq (be_ge (ge_var 0))) (blkOk_by (by kernel_rfl)) (by decide) (fun _ _ _ _ _ => (gg_name 1 nd)) (fun _ _ _ _ _ => gts_nil) (fun _ _ _ _ _ => (ge_cmp (op_dInA hu) (be_ge (ge_var 1)) (be_ge (ge_gc cPIECES)) (by rfl))))) ba_nil)))))))), hm, F.kp, F.bindsN fun _ _ _ _ _ _ us hl => match us, hl with | [_], _ => rfl⟩
abbrev s_need_eighths : Stmt := top 23
theorem sc_need_eighths : FnScope ["value"] ["value"] (defScope s_need_eighths) := ⟨rfl, rfl, rfl, by decide +kernel, rfl, by decide +kernel, by decide +kernel⟩
theorem ok_need_eighths (z : Bt mg) (h_fits_eighths : Fd P w K mg base "fits_eighths" 1 m_fits_eighths) (F : FunD K "need_eighths" "need_eighths" (defArgs s_need_eighths) (defBody s_need_eighths) (defScope s_need_eighths) [] [] f fd) (hm : mg "need_eighths" = some (.ref f)) : Fd P w K mg base "need_eighths" 2 m_need_eighths :=
  ⟨f, fd, _, fn_ok F sc_need_eighths 1 rfl (fun cdv A outer s H E hr => by
    have nd := sc_need_eighths.nd
    have hu := hU hr
    unfold S_need_eighths
    exact (gss_one (gs_if (gt_not (gt_of (ge_f h_fits_eighths (hr.mono (by decide)) (ga_cons (ge_var 0) ga_nil))))
  (gss_one gs_stuck)
  gss_nil))), hm, F.kp, F.bindsN fun _ _ _ _ _ _ us hl => match us, hl with | [_], _ => rfl⟩
abbrev s_fits_number : Stmt := top 24
theorem sc_fits_number : FnScope ["value", "part"] ["value"] (defScope s_fits_number) := ⟨rfl, rfl, rfl, by decide +kernel, rfl, by decide +kernel, by decide +kernel⟩
theorem ok_fits_number (z : Bt mg) (cGREAT : Gc K mg "GREAT" c_GREAT) (h_is_tuple_of : Fd P w K mg base "is_tuple_of" 1 m_is_tuple_of) (h_fits_whole : Fd P w K mg base "fits_whole" 2 m_fits_whole) (F : FunD K "fits_number" "fits_number" (defArgs s_fits_number) (defBody s_fits_number) (defScope s_fits_number) [] [] f fd) (hm : mg "fits_number" = some (.ref f)) : Fd P w K mg base "fits_number" 3 m_fits_number :=
  ⟨f, fd, _, fn_ok F sc_fits_number 1 rfl (fun cdv A outer s H E hr => by
    have nd := sc_fits_number.nd
    have hu := hU hr
    unfold S_fits_number
    exact (gss_one (gs_ret (ge_and (ge_f h_is_tuple_of (hr.mono (by decide)) (ga_cons (ge_var 0) (ga_cons ge_int (ga_cons ge_int ga_nil)))) (ge_one (ge_callB (c_all rfl) z.all (ba_cons (be_fe (fe_lc (own := [("part", 1)]) rfl nd (bi_seq (be_ge (ge_var 0))) (blkOk_by (by kernel_rfl)) (by decide) (fun _ _ _ _ _ => (gg_name 1 nd)) (fun _ _ _ _ _ => gts_nil) (fun _ _ _ _ _ => (ge_f h_fits_whole (hr.mono (by decide)) (ga_cons (ge_var 1) (ga_cons (ge_un op_dNeg (be_ge (ge_gc cGREAT))) (ga_cons (ge_gc cGREAT) ga_nil))))))) ba_nil))))))), hm, F.kp, F.bindsN fun _ _ _ _ _ _ us hl => match us, hl with | [_], _ => rfl⟩
abbrev s_need_number : Stmt := top 25
theorem sc_need_number : FnScope ["value"] ["value"] (defScope s_need_number) := ⟨rfl, rfl, rfl, by decide +kernel, rfl, by decide +kernel, by decide +kernel⟩
theorem ok_need_number (z : Bt mg) (h_fits_number : Fd P w K mg base "fits_number" 3 m_fits_number) (F : FunD K "need_number" "need_number" (defArgs s_need_number) (defBody s_need_number) (defScope s_need_number) [] [] f fd) (hm : mg "need_number" = some (.ref f)) : Fd P w K mg base "need_number" 4 m_need_number :=
  ⟨f, fd, _, fn_ok F sc_need_number 1 rfl (fun cdv A outer s H E hr => by
    have nd := sc_need_number.nd
    have hu := hU hr
    unfold S_need_number
    exact (gss_one (gs_if (gt_not (gt_of (ge_f h_fits_number (hr.mono (by decide)) (ga_cons (ge_var 0) ga_nil))))
  (gss_one gs_stuck)
  gss_nil))), hm, F.kp, F.bindsN fun _ _ _ _ _ _ us hl => match us, hl with | [_], _ => rfl⟩
abbrev s_least_in : Stmt := top 26
theorem sc_least_in : FnScope ["numbers", "found", "number"] ["numbers"] (defScope s_least_in) := ⟨rfl, rfl, rfl, by decide +kernel, rfl, by decide +kernel, by decide +kernel⟩
theorem ok_least_in (z : Bt mg) (h_sign_in : Fd P w K mg base "sign_in" 1 m_sign_in) (h_minus : Fd P w K mg base "minus" 1 m_minus) (F : FunD K "least_in" "least_in" (defArgs s_least_in) (defBody s_least_in) (defScope s_least_in) [] [] f fd) (hm : mg "least_in" = some (.ref f)) : Fd P w K mg base "least_in" 2 m_least_in :=
  ⟨f, fd, _, fn_ok F sc_least_in 1 rfl (fun cdv A outer s H E hr => by
    have nd := sc_least_in.nd
    have hu := hU hr
    unfold S_least_in
    exact (gss_cons (gs_set 1 nd (ge_ix (ix_item hu) (be_ge (ge_var 0)) (be_ge ge_int)))
  (gss_cons (gs_for PassesOwn.never rfl (gi_seq (ge_var 0)) (gg_name 2 nd)
  (gss_one (gs_set 1 nd (ge_if (gt_cmp op_dGt (be_ge (ge_f h_sign_in (hr.mono (by decide)) (ga_cons (ge_f h_minus (hr.mono (by decide)) (ga_cons (ge_var 1) (ga_cons (ge_var 2) ga_nil))) ga_nil))) (be_ge ge_int) (nomark _)) (ge_var 2) (ge_var 1)))))
  (gss_one (gs_ret (ge_var 1)))))), hm, F.kp, F.bindsN fun _ _ _ _ _ _ us hl => match us, hl with | [_], _ => rfl⟩
abbrev s_greatest_in : Stmt := top 27
theorem sc_greatest_in : FnScope ["numbers", "found", "number"] ["numbers"] (defScope s_greatest_in) := ⟨rfl, rfl, rfl, by decide +kernel, rfl, by decide +kernel, by decide +kernel⟩
theorem ok_greatest_in (z : Bt mg) (h_sign_in : Fd P w K mg base "sign_in" 1 m_sign_in) (h_minus : Fd P w K mg base "minus" 1 m_minus) (F : FunD K "greatest_in" "greatest_in" (defArgs s_greatest_in) (defBody s_greatest_in) (defScope s_greatest_in) [] [] f fd) (hm : mg "greatest_in" = some (.ref f)) : Fd P w K mg base "greatest_in" 2 m_greatest_in :=
  ⟨f, fd, _, fn_ok F sc_greatest_in 1 rfl (fun cdv A outer s H E hr => by
    have nd := sc_greatest_in.nd
    have hu := hU hr
    unfold S_greatest_in
    exact (gss_cons (gs_set 1 nd (ge_ix (ix_item hu) (be_ge (ge_var 0)) (be_ge ge_int)))
  (gss_cons (gs_for PassesOwn.never rfl (gi_seq (ge_var 0)) (gg_name 2 nd)
  (gss_one (gs_set 1 nd (ge_if (gt_cmp op_dGt (be_ge (ge_f h_sign_in (hr.mono (by decide)) (ga_cons (ge_f h_minus (hr.mono (by decide)) (ga_cons (ge_var 2) (ga_cons (ge_var 1) ga_nil))) ga_nil))) (be_ge ge_int) (nomark _)) (ge_var 2) (ge_var 1)))))
  (gss_one (gs_ret (ge_var 1)))))), hm, F.kp, F.bindsN fun _ _ _ _ _ _ us hl => match us, hl with | [_], _ => rfl⟩
abbrev s_square_in : Stmt := top 28
theorem sc_square_in : FnScope ["place", "right", "up", "whole"] ["place"] (defScope s_square_in) := ⟨rfl, rfl, rfl, by decide +kernel, rfl, by decide +kernel, by decide +kernel⟩
theorem ok_square_in (z : Bt mg) (F : FunD K "square_in" "square_in" (defArgs s_square_in) (defBody s_square_in) (defScope s_square_in) [] [] f fd) (hm : mg "square_in" = some (.ref f)) : Fd P w K mg base "square_in" 1 m_square_in :=
  ⟨f, fd, _, fn_ok F sc_square_in 1 rfl (fun cdv A outer s H E hr => by
    have nd := sc_square_in.nd
    have hu := hU hr
    unfold S_square_in
    exact (gss_cons (gs_asg (ge_slice sl_dSl (be_ge (ge_var 0)) go_none (go_some ge_int)) (gg_tup 2 (pg_tup rfl (ggs_cons (gg_name 1 nd) (ggs_cons (gg_name 2 nd) ggs_nil)))))
  (gss_cons (gs_set 3 nd (ge_op op_dAdd (be_ge (ge_op op_dAdd (be_ge (ge_op op_dAdd (be_ge (ge_op op_dMul (be_ge (ge_ix (ix_item hu) (be_ge (ge_var 1)) (be_ge ge_int))) (be_ge (ge_ix (ix_item hu) (be_ge (ge_var 1)) (be_ge ge_int))))) (be_ge (ge_op op_dMul (be_ge (ge_op op_dMul (be_ge ge_int) (be_ge (ge_ix (ix_item hu) (be_ge (ge_var 1)) (be_ge ge_int))))) (be_ge (ge_ix (ix_item hu) (be_ge (ge_var 1)) (be_ge ge_int))))))) (be_ge (ge_op op_dMul (be_ge (ge_ix (ix_item hu) (be_ge (ge_var 2)) (be_ge ge_int))) (be_ge (ge_ix (ix_item hu) (be_ge (ge_var 2)) (be_ge ge_int))))))) (be_ge (ge_op op_dMul (be_ge (ge_op op_dMul (be_ge ge_int) (be_ge (ge_ix (ix_item hu) (be_ge (ge_var 2)) (be_ge ge_int))))) (be_ge (ge_ix (ix_item hu) (be_ge (ge_var 2)) (be_ge ge_int)))))))
  (gss_one (gs_ret (ge_tup (ga_cons (ge_var 3) (ga_cons (ge_op op_dAdd (be_ge (ge_op op_dMul (be_ge (ge_op op_dMul (be_ge ge_int) (be_ge (ge_ix (ix_item hu) (be_ge (ge_var 1)) (be_ge ge_int))))) (be_ge (ge_ix (ix_item hu) (be_ge (ge_var 1)) (be_ge ge_int))))) (be_ge (ge_op op_dMul (be_ge (ge_op op_dMul (be_ge ge_int) (be_ge (ge_ix (ix_item hu) (be_ge (ge_var 2)) (be_ge ge_int))))) (be_ge (ge_ix (ix_item hu) (be_ge (ge_var 2)) (be_ge ge_int)))))) ga_nil)))))))), hm, F.kp, F.bindsN fun _ _ _ _ _ _ us hl => match us, hl with | [_], _ => rfl⟩
abbrev s_sign_of : Stmt := top 29
theorem sc_sign_of : FnScope ["number"] ["number"] (defScope s_sign_of) := ⟨rfl, rfl, rfl, by decide +kernel, rfl, by decide +kernel, by decide +kernel⟩
theorem ok_sign_of (z : Bt mg) (h_need_number : Fd P w K mg base "need_number" 4 m_need_number) (h_sign_in : Fd P w K mg base "sign_in" 1 m_sign_in) (F : FunD K "sign_of" "sign_of" (defArgs s_sign_of) (defBody s_sign_of) (defScope s_sign_of) [] [] f fd) (hm : mg "sign_of" = some (.ref f)) : Fd P w K mg base "sign_of" 5 m_sign_of :=
  ⟨f, fd, _, fn_ok F sc_sign_of 1 rfl (fun cdv A outer s H E hr => by
    have nd := sc_sign_of.nd
    have hu := hU hr
    unfold S_sign_of
    exact (gss_cons (gs_expr (ge_f h_need_number (hr.mono (by decide)) (ga_cons (ge_var 0) ga_nil)))
  (gss_one (gs_ret (ge_f h_sign_in (hr.mono (by decide)) (ga_cons (ge_var 0) ga_nil)))))), hm, F.kp, F.bindsN fun _ _ _ _ _ _ us hl => match us, hl with | [_], _ => rfl⟩
abbrev s_whole_of : Stmt := top 30
theorem sc_whole_of : FnScope ["number"] ["number"] (defScope s_whole_of) := ⟨rfl, rfl, rfl, by decide +kernel, rfl, by decide +kernel, by decide +kernel⟩
theorem ok_whole_of (z : Bt mg) (h_need_number : Fd P w K mg base "need_number" 4 m_need_number) (h_whole_in : Fd P w K mg base "whole_in" 2 m_whole_in) (F : FunD K "whole_of" "whole_of" (defArgs s_whole_of) (defBody s_whole_of) (defScope s_whole_of) [] [] f fd) (hm : mg "whole_of" = some (.ref f)) : Fd P w K mg base "whole_of" 5 m_whole_of :=
  ⟨f, fd, _, fn_ok F sc_whole_of 1 rfl (fun cdv A outer s H E hr => by
    have nd := sc_whole_of.nd
    have hu := hU hr
    unfold S_whole_of
    exact (gss_cons (gs_expr (ge_f h_need_number (hr.mono (by decide)) (ga_cons (ge_var 0) ga_nil)))
  (gss_one (gs_ret (ge_f h_whole_in (hr.mono (by decide)) (ga_cons (ge_var 0) ga_nil)))))), hm, F.kp, F.bindsN fun _ _ _ _ _ _ us hl => match us, hl with | [_], _ => rfl⟩
abbrev s_is_less : Stmt := top 31
theorem sc_is_less : FnScope ["one", "other"] ["one", "other"] (defScope s_is_less) := ⟨rfl, rfl, rfl, by decide +kernel, rfl, by decide +kernel, by decide +kernel⟩
theorem ok_is_less (z : Bt mg) (h_need_number : Fd P w K mg base "need_number" 4 m_need_number) (h_sign_in : Fd P w K mg base "sign_in" 1 m_sign_in) (h_minus : Fd P w K mg base "minus" 1 m_minus) (F : FunD K "is_less" "is_less" (defArgs s_is_less) (defBody s_is_less) (defScope s_is_less) [] [] f fd) (hm : mg "is_less" = some (.ref f)) : Fd P w K mg base "is_less" 5 m_is_less :=
  ⟨f, fd, _, fn_ok F sc_is_less 2 rfl (fun cdv A outer s H E hr => by
    have nd := sc_is_less.nd
    have hu := hU hr
    unfold S_is_less
    exact (gss_cons (gs_expr (ge_f h_need_number (hr.mono (by decide)) (ga_cons (ge_var 0) ga_nil)))
  (gss_cons (gs_expr (ge_f h_need_number (hr.mono (by decide)) (ga_cons (ge_var 1) ga_nil)))
  (gss_one (gs_ret (ge_cmp op_dLt (be_ge (ge_f h_sign_in (hr.mono (by decide)) (ga_cons (ge_f h_minus (hr.mono (by decide)) (ga_cons (ge_var 0) (ga_cons (ge_var 1) ga_nil))) ga_nil))) (be_ge ge_int) (nomark _))))))), hm, F.kp, F.bindsN fun _ _ _ _ _ _ us hl => match us, hl with | [_, _], _ => rfl⟩
abbrev s_product : Stmt := top 32
theorem sc_product : FnScope ["one", "other"] ["one", "other"] (defScope s_product) := ⟨rfl, rfl, rfl, by decide +kernel, rfl, by decide +kernel, by decide +kernel⟩
theorem ok_product (z : Bt mg) (h_need_number : Fd P w K mg base "need_number" 4 m_need_number) (F : FunD K "product" "product" (defArgs s_product) (defBody s_product) (defScope s_product) [] [] f fd) (hm : mg "product" = some (.ref f)) : Fd P w K mg base "product" 5 m_product :=
  ⟨f, fd, _, fn_ok F sc_product 2 rfl (fun cdv A outer s H E hr => by
    have nd := sc_product.nd
    have hu := hU hr
    unfold S_product
    exact (gss_cons (gs_expr (ge_f h_need_number (hr.mono (by decide)) (ga_cons (ge_var 0) ga_nil)))
  (gss_cons (gs_expr (ge_f h_need_number (hr.mono (by decide)) (ga_cons (ge_var 1) ga_nil)))
  (gss_one (gs_ret (ge_tup (ga_cons (ge_op op_dAdd (be_ge (ge_op op_dMul (be_ge (ge_ix (ix_item hu) (be_ge (ge_var 0)) (be_ge ge_int))) (be_ge (ge_ix (ix_item hu) (be_ge (ge_var 1)) (be_ge ge_int))))) (be_ge (ge_op op_dMul (be_ge (ge_op op_dMul (be_ge ge_int) (be_ge (ge_ix (ix_item hu) (be_ge (ge_var 0)) (be_ge ge_int))))) (be_ge (ge_ix (ix_item hu) (be_ge (ge_var 1)) (be_ge ge_int)))))) (ga_cons (ge_op op_dAdd (be_ge (ge_op op_dMul (be_ge (ge_ix (ix_item hu) (be_ge (ge_var 0)) (be_ge ge_int))) (be_ge (ge_ix (ix_item hu) (be_ge (ge_var 1)) (be_ge ge_int))))) (be_ge (ge_op op_dMul (be_ge (ge_ix (ix_item hu) (be_ge (ge_var 0)) (be_ge ge_int))) (be_ge (ge_ix (ix_item hu) (be_ge (ge_var 1)) (be_ge ge_int)))))) ga_nil)))))))), hm, F.kp, F.bindsN fun _ _ _ _ _ _ us hl => match us, hl with | [_, _], _ => rfl⟩
abbrev s_box_by_eighths : Stmt := top 33
theorem sc_box_by_eighths : FnScope ["word", "places", "rights", "ups", "place"] ["word"] (defScope s_box_by_eighths) := ⟨rfl, rfl, rfl, by decide +kernel, rfl, by decide +kernel, by decide +kernel⟩
theorem ok_box_by_eighths (z : Bt mg) (h_need_eighths : Fd P w K mg base "need_eighths" 2 m_need_eighths) (h_along_in : Fd P w K mg base "along_in" 3 m_along_in) (h_greatest_in : Fd P w K mg base "greatest_in" 2 m_greatest_in) (h_least_in : Fd P w K mg base "least_in" 2 m_least_in) (F : FunD K "box_by_eighths" "box_by_eighths" (defArgs s_box_by_eighths) (defBody s_box_by_eighths) (defScope s_box_by_eighths) [] [] f fd) (hm : mg "box_by_eighths" = some (.ref f)) : Fd P w K mg base "box_by_eighths" 4 m_box_by_eighths :=
  ⟨f, fd, _, fn_ok F sc_box_by_eighths 1 rfl (fun cdv A outer s H E hr => by
    have nd := sc_box_by_eighths.nd
    have hu := hU hr
    unfold S_box_by_eighths
    exact (gss_cons (gs_expr (ge_f h_need_eighths (hr.mono (by decide)) (ga_cons (ge_var 0) ga_nil)))
  (gss_cons (gs_set 1 nd (ge_f h_along_in (hr.mono (by decide)) (ga_cons (ge_var 0) ga_nil)))
  (gss_cons (gs_par 2 3 rfl nd (ga_cons (ge_fe (fe_lc (own := [("place", 4)]) rfl nd (bi_seq (be_ge (ge_var 1))) (blkOk_by (by kernel_rfl)) (by decide) (fun _ _ _ _ _ => (gg_name 4 nd)) (fun _ _ _ _ _ => gts_nil) (fun _ _ _ _ _ => (ge_ix (ix_item hu) (be_ge (ge_var 4)) (be_ge ge_int))))) (ga_cons (ge_fe (fe_lc (own := [("place", 4)]) rfl nd (bi_seq (be_ge (ge_var 1))) (blkOk_by (by kernel_rfl)) (by decide) (fun _ _ _ _ _ => (gg_name 4 nd)) (fun _ _ _ _ _ => gts_nil) (fun _ _ _ _ _ => (ge_ix (ix_item hu) (be_ge (ge_var 4)) (be_ge ge_int))))) ga_nil)) (h := ps_par rfl nd rfl rfl (by decide) rfl rfl (ga_cons (ge_fe (fe_lc (own := [("place", 4)]) rfl nd (bi_seq (be_ge (ge_var 1))) (blkOk_by (by kernel_rfl)) (by decide) (fun _ _ _ _ _ => (gg_name 4 nd)) (fun _ _ _ _ _ => gts_nil) (fun _ _ _ _ _ => (ge_ix (ix_item hu) (be_ge (ge_var 4)) (be_ge ge_int))))) (ga_cons (ge_fe (fe_lc (own := [("place", 4)]) rfl nd (bi_seq (be_ge (ge_var 1))) (blkOk_by (by kernel_rfl)) (by decide) (fun _ _ _ _ _ => (gg_name 4 nd)) (fun _ _ _ _ _ => gts_nil) (fun _ _ _ _ _ => (ge_ix (ix_item hu) (be_ge (ge_var 4)) (be_ge ge_int))))) ga_nil)) (by rfl)))
  (gss_one (gs_ret (ge_tup (ga_cons (ge_f h_least_in (hr.mono (by decide)) (ga_cons (ge_var 2) ga_nil)) (ga_cons (ge_f h_greatest_in (hr.mono (by decide)) (ga_cons (ge_var 2) ga_nil)) (ga_cons (ge_f h_least_in (hr.mono (by decide)) (ga_cons (ge_var 3) ga_nil)) (ga_cons (ge_f h_greatest_in (hr.mono (by decide)) (ga_cons (ge_var 3) ga_nil)) ga_nil))))))))))), hm, F.kp, F.bindsN fun _ _ _ _ _ _ us hl => match us, hl with | [_], _ => rfl⟩
abbrev s_far_squared : Stmt := top 34
theorem sc_far_squared : FnScope ["word"] ["word"] (defScope s_far_squared) := ⟨rfl, rfl, rfl, by decide +kernel, rfl, by decide +kernel, by decide +kernel⟩
theorem ok_far_squared (z : Bt mg) (h_need_eighths : Fd P w K mg base "need_eighths" 2 m_need_eighths) (h_square_in : Fd P w K mg base "square_in" 1 m_square_in) (h_along_in : Fd P w K mg base "along_in" 3 m_along_in) (F : FunD K "far_squared" "far_squared" (defArgs s_far_squared) (defBody s_far_squared) (defScope s_far_squared) [] [] f fd) (hm : mg "far_squared" = some (.ref f)) : Fd P w K mg base "far_squared" 4 m_far_squared :=
  ⟨f, fd, _, fn_ok F sc_far_squared 1 rfl (fun cdv A outer s H E hr => by
    have nd := sc_far_squared.nd
    have hu := hU hr
    unfold S_far_squared
    exact (gss_cons (gs_expr (ge_f h_need_eighths (hr.mono (by decide)) (ga_cons (ge_var 0) ga_nil)))
  (gss_one (gs_ret (ge_f h_square_in (hr.mono (by decide)) (ga_cons (ge_ix (ix_item hu) (be_ge (ge_f h_along_in (hr.mono (by decide)) (ga_cons (ge_var 0) ga_nil))) (be_ge (ge_un op_dNeg (be_ge ge_int)))) ga_nil)))))), hm, F.kp, F.bindsN fun _ _ _ _ _ _ us hl => match us, hl with | [_], _ => rfl⟩
abbrev s_farthest_place : Stmt := top 35
theorem sc_farthest_place : FnScope ["word", "squares", "place"] ["word"] (defScope s_farthest_place) := ⟨rfl, rfl, rfl, by decide +kernel, rfl, by decide +kernel, by decide +kernel⟩
theorem ok_farthest_place (z : Bt mg) (h_need_eighths : Fd P w K mg base "need_eighths" 2 m_need_eighths) (h_along_in : Fd P w K mg base "along_in" 3 m_along_in) (h_square_in : Fd P w K mg base "square_in" 1 m_square_in) (h_greatest_in : Fd P w K mg base "greatest_in" 2 m_greatest_in) (F : FunD K "farthest_place" "farthest_place" (defArgs s_farthest_place) (defBody s_farthest_place) (defScope s_farthest_place) [] [] f fd) (hm : mg "farthest_place" = some (.ref f)) : Fd P w K mg base "farthest_place" 4 m_farthest_place :=
  ⟨f, fd, _, fn_ok F sc_farthest_place 1 rfl (fun cdv A outer s H E hr => by
    have nd := sc_farthest_place.nd
    have hu := hU hr
    unfold S_farthest_place
    exact (gss_cons (gs_expr (ge_f h_need_eighths (hr.mono (by decide)) (ga_cons (ge_var 0) ga_nil)))
  (gss_cons (gs_setZ 1 (gs_lc 1 (own := [("place", 2)]) rfl nd (bi_seq (be_ge (ge_f h_along_in (hr.mono (by decide)) (ga_cons (ge_var 0) ga_nil)))) (blkOk_by (by kernel_rfl)) (by decide) (fun _ _ _ _ _ => (gg_name 2 nd)) (fun _ _ _ _ _ => gts_nil) (fun _ _ _ _ _ => (ge_f h_square_in (hr.mono (by decide)) (ga_cons (ge_var 2) ga_nil))) (sw_true rfl rfl rfl (by kernel_rfl))))
  (gss_one (gs_ret (ge_bm PySem.F.plainAttrs_list PySem.F.slot_list_index PySem.F.type_list_index (m_lindex hu) (be_ge (ge_var 1)) (ba_cons (be_ge (ge_f h_greatest_in (hr.mono (by decide)) (ga_cons (ge_var 1) ga_nil))) ba_nil))))))), hm, F.kp, F.bindsN fun _ _ _ _ _ _ us hl => match us, hl with | [_], _ => rfl⟩
abbrev s_cell_of : Stmt := top 36
theorem sc_cell_of : FnScope ["word", "right", "up", "way"] ["word"] (defScope s_cell_of) := ⟨rfl, rfl, rfl, by decide +kernel, rfl, by decide +kernel, by decide +kernel⟩
theorem ok_cell_of (z : Bt mg) (h_need_eighths : Fd P w K mg base "need_eighths" 2 m_need_eighths) (h_along_in : Fd P w K mg base "along_in" 3 m_along_in) (h_whole_in : Fd P w K mg base "whole_in" 2 m_whole_in) (F : FunD K "cell_of" "cell_of" (defArgs s_cell_of) (defBody s_cell_of) (defScope s_cell_of) [] [] f fd) (hm : mg "cell_of" = some (.ref f)) : Fd P w K mg base "cell_of" 4 m_cell_of :=
  ⟨f, fd, _, fn_ok F sc_cell_of 1 rfl (fun cdv A outer s H E hr => by
    have nd := sc_cell_of.nd
    have hu := hU hr
    unfold S_cell_of
    exact (gss_cons (gs_expr (ge_f h_need_eighths (hr.mono (by decide)) (ga_cons (ge_var 0) ga_nil)))
  (gss_cons (gs_asg (ge_ix (ix_item hu) (be_ge (ge_f h_along_in (hr.mono (by decide)) (ga_cons (ge_var 0) ga_nil))) (be_ge (ge_un op_dNeg (be_ge ge_int)))) (gg_tup 3 (pg_tup rfl (ggs_cons (gg_name 1 nd) (ggs_cons (gg_name 2 nd) (ggs_cons (gg_name 3 nd) ggs_nil))))))
  (gss_one (gs_ret (ge_tup (ga_cons (ge_f h_whole_in (hr.mono (by decide)) (ga_cons (ge_var 1) ga_nil)) (ga_cons (ge_f h_whole_in (hr.mono (by decide)) (ga_cons (ge_var 2) ga_nil)) ga_nil)))))))), hm, F.kp, F.bindsN fun _ _ _ _ _ _ us hl => match us, hl with | [_], _ => rfl⟩
abbrev s_law_cup : Stmt := top 38
theorem sc_law_cup : FnScope ["script", "cell"] ["script"] (defScope s_law_cup) := ⟨rfl, rfl, rfl, by decide +kernel, rfl, by decide +kernel, by decide +kernel⟩
theorem ok_law_cup (z : Bt mg) (F : FunD K "_law_cup" "_law_cup" (defArgs s_law_cup) (defBody s_law_cup) (defScope s_law_cup) [] [] f fd) (hm : mg "_law_cup" = some (.ref f)) : Fd P w K mg base "_law_cup" 1 m_law_cup :=
  ⟨f, fd, _, cup_ok (F.ok sc_law_cup (fun vs H Q E h => by obtain ⟨a, ns, rfl, _⟩ := h; rfl) (fun cdv A outer s H vs Q E hr h => ⟨cupT K 263 2969 4931 2041059953 1669, PSs.nox (by
    have nd := sc_law_cup.nd
    exact (pss_cons (ps_set (i := 1) nd rfl (.inl rfl) (pe_callB call_abs rfl z.abs (by decide +kernel) (pa_cons (pe_ix ix_list (pe_op op_cat (pe_callTy call_list_of rfl z.list (by decide +kernel) (pa_cons (pv 0) pa_nil)) (pe_lst (pa_cons pe_int pa_nil))) pe_int (by intro _ _; rfl)) pa_nil)))
    (pss_one (ps_ret (pe_lst (pa_cons (pe_ifExp (pt_cmpR op_ge (pv 1) (pe_op op_pow pe_int pe_int) (nomark _)) (pe_op op_fdiv (pv 1) pe_int) pe_int)
      (pa_cons (pe_op op_add (pe_op op_mod (pe_callTy call_int1 rfl z.int (by decide +kernel) (pa_cons (pe_op op_add (pe_op op_mul (pv 1) pe_int) pe_int) pa_nil)) pe_int) pe_int) pa_nil))))))), cup_read (by decide) (by decide) (by decide) h⟩)) rfl, hm, F.kp, F.bindsN fun _ _ _ _ _ _ us hl => match us, hl with | [_], _ => rfl⟩
abbrev s_law_roll : Stmt := top 39
theorem sc_law_roll : FnScope ["cup", "many", "found", "deep"] ["cup", "many"] (defScope s_law_roll) := ⟨rfl, rfl, rfl, by decide +kernel, rfl, by decide +kernel, by decide +kernel⟩
theorem ok_law_roll (z : Bt mg) (F : FunD K "_law_roll" "_law_roll" (defArgs s_law_roll) (defBody s_law_roll) (defScope s_law_roll) [] [] f fd) (hm : mg "_law_roll" = some (.ref f)) : Fd P w K mg base "_law_roll" 1 m_law_roll :=
  ⟨f, fd, _, roll_okW (F.ok sc_law_roll (fun vs H Q E h => by obtain ⟨a, c, d, n, rfl, _⟩ := h; rfl) (fun cdv A outer s H vs Q E hr h => ⟨rollTW K 35201 6451 2147483423 3631 2147483587 1123, PSs.nox (by
    have nd := sc_law_roll.nd
    exact (pss_cons (ps_if (pt_cmpR op_gt (pe_ix ix_list (pv 0) pe_int (by intro _ _; rfl)) pe_int (nomark _))
      (pss_cons (ps_set (i := 2) nd rfl (.inl rfl) (pe_op op_mod (pe_callTy call_int1 rfl z.int (by decide +kernel) (pa_cons (pe_ix ix_list (pv 0) pe_int (by intro _ _; rfl)) pa_nil)) (pv 1)))
      (pss_cons (ps_asg (pe_op op_fdivW (pe_ix ix_list (pv 0) pe_int (by intro _ _; rfl)) (pv 1)) (pg_sub (pv 0) pe_int set_list)) (pss_one (ps_ret (pv 2))))) pss_nil)
    (pss_cons (ps_asg (pe_op op_mod (pe_callTy call_int1 rfl z.int (by decide +kernel) (pa_cons (pe_op op_add (pe_op op_mul (pe_ix ix_list (pv 0) pe_int (by intro _ _; rfl)) pe_int) pe_int) pa_nil)) pe_int) (pg_sub (pv 0) pe_int set_list))
    (pss_cons (ps_set (i := 3) nd rfl (.inl rfl) (pe_op op_mod (pe_callTy call_int1 rfl z.int (by decide +kernel) (pa_cons (pe_op op_mul (pe_ix ix_list (pv 0) pe_int (by intro _ _; rfl)) (pe_op op_add (pe_ix ix_list (pv 0) pe_int (by intro _ _; rfl)) pe_int)) pa_nil)) pe_int))
    (pss_one (ps_ret (pe_op op_mod (pe_callTy call_int1 rfl z.int (by decide +kernel) (pa_cons (pe_op op_fdiv (pv 3) pe_int) pa_nil)) (pv 1)))))))), roll_readW (by decide) (by decide) (by decide) (by decide) h⟩)) rfl, hm, F.kp, F.bindsN fun _ _ _ _ _ _ us hl => match us, hl with | [_, _], _ => rfl⟩
abbrev s_law_some : Stmt := top 40
theorem sc_law_some : FnScope ["cup", "things"] ["cup", "things"] (defScope s_law_some) := ⟨rfl, rfl, rfl, by decide +kernel, rfl, by decide +kernel, by decide +kernel⟩
theorem ok_law_some (z : Bt mg) (h_law_roll : Fd P w K mg base "_law_roll" 1 m_law_roll) (F : FunD K "_law_some" "_law_some" (defArgs s_law_some) (defBody s_law_some) (defScope s_law_some) [] [] f fd) (hm : mg "_law_some" = some (.ref f)) : Fd P w K mg base "_law_some" 2 m_law_some :=
  ⟨f, fd, _, fn_ok F sc_law_some 2 rfl (fun cdv A outer s H E hr => by
    have nd := sc_law_some.nd
    have hu := hU hr
    unfold S_law_some
    exact (gss_one (gs_ret (ge_ix (ix_item hu) (be_ge (ge_var 1)) (be_ge (ge_f h_law_roll (hr.mono (by decide)) (ga_cons (ge_var 0) (ga_cons (ge_callB c_len z.len (ba_cons (be_ge (ge_var 1)) ba_nil)) ga_nil)))))))), hm, F.kp, F.bindsN fun _ _ _ _ _ _ us hl => match us, hl with | [_, _], _ => rfl⟩
abbrev s_law_same : Stmt := top 41
theorem sc_law_same : FnScope ["told", "due", "at"] ["told", "due"] (defScope s_law_same) := ⟨rfl, rfl, rfl, by decide +kernel, rfl, by decide +kernel, by decide +kernel⟩
theorem okf_law_same (z : Bt mg) (F : FunD K "_law_same" "_law_same" (defArgs s_law_same) (defBody s_law_same) (defScope s_law_same) [] [] f fd) (hm : mg "_law_same" = some (.ref f)) : ∀ k : Nat, Fd P w K mg base "_law_same" (k + 1) (mf_law_same k)
  | 0 => ⟨f, fd, ["told", "due"], ⟨fun _ _ _ _ ⟨_, _, _, _, _, h, _⟩ => h.elim, fun _ _ _ _ _ _ _ _ _ _ _ _ _ ⟨_, _, _, _, _, h, _⟩ => h.elim⟩, hm, F.kp, F.bindsN fun _ _ _ _ _ _ us hl => match us, hl with | [_, _], _ => rfl⟩
  | k + 1 => ⟨f, fd, ["told", "due"], by
      have hrec := okf_law_same z F hm k
      have e : k + 1 + 1 = (k + 1) + 1 := by omega
      rw [e]
      exact fn_ok F sc_law_same 2 rfl (fun cdv A outer s H E hr => by
    have nd := sc_law_same.nd
    have hu := hU hr
    unfold S_law_same
    exact (gss_cons (gs_if (gt_w (gw_or (gt_of (ge_callB c_isi z.isinstance (ba_cons (be_ge (ge_var 1)) (ba_cons (be_ge (ge_ty "tuple" z.tuple)) ba_nil)))) (gw_or1 (gt_of (ge_callB c_isi z.isinstance (ba_cons (be_ge (ge_var 1)) (ba_cons (be_ge (ge_ty "list" z.list)) ba_nil)))))))
  (gss_cons (gs_if (gt_w (gw_or (gt_cmp (op_dNe hu) (be_ge (ge_callB c_isi z.isinstance (ba_cons (be_ge (ge_var 0)) (ba_cons (be_ge (ge_ty "tuple" z.tuple)) ba_nil)))) (be_ge (ge_callB c_isi z.isinstance (ba_cons (be_ge (ge_var 1)) (ba_cons (be_ge (ge_ty "tuple" z.tuple)) ba_nil)))) (nomark _)) (gw_or (gt_cmp (op_dNe hu) (be_ge (ge_callB c_isi z.isinstance (ba_cons (be_ge (ge_var 0)) (ba_cons (be_ge (ge_ty "list" z.list)) ba_nil)))) (be_ge (ge_callB c_isi z.isinstance (ba_cons (be_ge (ge_var 1)) (ba_cons (be_ge (ge_ty "list" z.list)) ba_nil)))) (nomark _)) (gw_or1 (gt_cmp (op_dNe hu) (be_ge (ge_callB c_len z.len (ba_cons (be_ge (ge_var 0)) ba_nil))) (be_ge (ge_callB c_len z.len (ba_cons (be_ge (ge_var 1)) ba_nil))) (nomark _))))))
  (gss_one (gs_ret ge_bl))
  gss_nil)
  (gss_one (gs_ret (ge_cmp (op_dEq hu) (be_fe (fe_lc (own := [("at", 2)]) rfl nd (bi_gi (gi_rng1 z.range (ga_cons (ge_callB c_len z.len (ba_cons (be_ge (ge_var 1)) ba_nil)) ga_nil))) (blkOk_by (by kernel_rfl)) (by decide) (fun _ _ _ _ _ => (gg_name 2 nd)) (fun _ _ _ _ _ => (gts_one (gt_not (gt_of (ge_f hrec (hr.mono (by omega)) (ga_cons (ge_ix (ix_item hu) (be_ge (ge_var 0)) (be_ge (ge_var 2))) (ga_cons (ge_ix (ix_item hu) (be_ge (ge_var 1)) (be_ge (ge_var 2))) ga_nil))))))) (fun _ _ _ _ _ => ge_int))) (be_fe (fe_lst ga_nil)) (nomark _)))))
  gss_nil)
  (gss_cons (gs_if (gt_cmp op_dIs (be_ge (ge_var 1)) (be_ge ge_non) (nomark _))
  (gss_one (gs_ret (ge_cmp op_dIs (be_ge (ge_var 0)) (be_ge ge_non) (nomark _))))
  gss_nil)
  (gss_cons (gs_if (gt_of (ge_callB c_isi z.isinstance (ba_cons (be_ge (ge_var 1)) (ba_cons (be_ge (ge_ty "bool" z.bool)) ba_nil))))
  (gss_one (gs_ret (ge_if (gt_of (ge_var 1)) (ge_cmp op_dIs (be_ge (ge_var 0)) (be_ge ge_bl) (nomark _)) (ge_cmp op_dIs (be_ge (ge_var 0)) (be_ge ge_bl) (nomark _)))))
  gss_nil)
  (gss_cons (gs_if (gt_of (ge_callB c_isi z.isinstance (ba_cons (be_ge (ge_var 1)) (ba_cons (be_ge (ge_ty "int" z.int)) ba_nil))))
  (gss_one (gs_ret (ge_and (ge_callB c_isi z.isinstance (ba_cons (be_ge (ge_var 0)) (ba_cons (be_ge (ge_ty "int" z.int)) ba_nil))) (ge_and (ge_not (ge_callB c_isi z.isinstance (ba_cons (be_ge (ge_var 0)) (ba_cons (be_ge (ge_ty "bool" z.bool)) ba_nil)))) (ge_one (ge_cmp (op_dEq hu) (be_ge (ge_callTy c_int z.int (ba_cons (be_ge (ge_var 0)) ba_nil))) (be_ge (ge_var 1)) (nomark _)))))))
  gss_nil)
  (gss_one (gs_ret (ge_and (ge_callB c_isi z.isinstance (ba_cons (be_ge (ge_var 0)) (ba_cons (be_ge (ge_ty "str" z.str)) ba_nil))) (ge_one (ge_cmp (op_dEq hu) (be_ge (ge_callTy c_str z.str (ba_cons (be_ge (ge_var 0)) ba_nil))) (be_ge (ge_var 1)) (nomark _))))))))))), hm, F.kp, F.bindsN fun _ _ _ _ _ _ us hl => match us, hl with | [_, _], _ => rfl⟩
theorem ok_law_same (z : Bt mg) (F : FunD K "_law_same" "_law_same" (defArgs s_law_same) (defBody s_law_same) (defScope s_law_same) [] [] f fd) (hm : mg "_law_same" = some (.ref f)) : Fd P w K mg base "_law_same" 13 m_law_same := okf_law_same z F hm 12
abbrev s_law_word : Stmt := top 42
theorem sc_law_word : FnScope ["cup", "many", "piece"] ["cup", "many"] (defScope s_law_word) := ⟨rfl, rfl, rfl, by decide +kernel, rfl, by decide +kernel, by decide +kernel⟩
theorem ok_law_word (z : Bt mg) (h_law_roll : Fd P w K mg base "_law_roll" 1 m_law_roll) (h_law_some : Fd P w K mg base "_law_some" 2 m_law_some) (F : FunD K "_law_word" "_law_word" (defArgs s_law_word) (defBody s_law_word) (defScope s_law_word) [] [] f fd) (hm : mg "_law_word" = some (.ref f)) : Fd P w K mg base "_law_word" 3 m_law_word :=
  ⟨f, fd, _, fn_ok F sc_law_word 2 rfl (fun cdv A outer s H E hr => by
    have nd := sc_law_word.nd
    have hu := hU hr
    unfold S_law_word
    exact (gss_one (gs_ret (ge_bm PySem.F.plainAttrs_str PySem.F.slot_str_join PySem.F.type_str_join m_join (be_ge (ge_str [])) (ba_cons (be_fe (fe_lc (own := [("piece", 2)]) rfl nd (bi_gi (gi_rng1 z.range (ga_cons (ge_f h_law_roll (hr.mono (by decide)) (ga_cons (ge_var 0) (ga_cons (ge_op op_dAdd (be_ge (ge_var 1)) (be_ge ge_int)) ga_nil))) ga_nil))) (blkOk_by (by kernel_rfl)) (by decide) (fun _ _ _ _ _ => (gg_name 2 nd)) (fun _ _ _ _ _ => gts_nil) (fun _ _ _ _ _ => (ge_f h_law_some (hr.mono (by decide)) (ga_cons (ge_var 0) (ga_cons (ge_fe (fe_lst (ga_cons (ge_str [115]) (ga_cons (ge_str [108]) (ga_cons (ge_str [114]) ga_nil))))) ga_nil)))))) ba_nil))))), hm, F.kp, F.bindsN fun _ _ _ _ _ _ us hl => match us, hl with | [_, _], _ => rfl⟩
abbrev s_law_times : Stmt := top 43
theorem sc_law_times : FnScope ["spot", "way", "found", "turn"] ["spot", "way"] (defScope s_law_times) := ⟨rfl, rfl, rfl, by decide +kernel, rfl, by decide +kernel, by decide +kernel⟩
theorem ok_law_times (z : Bt mg) (F : FunD K "_law_times" "_law_times" (defArgs s_law_times) (defBody s_law_times) (defScope s_law_times) [] [] f fd) (hm : mg "_law_times" = some (.ref f)) : Fd P w K mg base "_law_times" 1 m_law_times :=
  ⟨f, fd, _, fn_ok F sc_law_times 2 rfl (fun cdv A outer s H E hr => by
    have nd := sc_law_times.nd
    have hu := hU hr
    unfold S_law_times
    exact (gss_cons (gs_set 2 nd (ge_fe (fe_callTy (c_list rfl) z.list (ba_cons (be_ge (ge_var 0)) ba_nil))))
  (gss_cons (gs_for PassesOwn.never rfl (gi_rng1 z.range (ga_cons (ge_op op_dMod (be_ge (ge_callTy c_int z.int (ba_cons (be_ge (ge_var 1)) ba_nil))) (be_ge ge_int)) ga_nil)) (gg_name 3 nd)
  (gss_one (gs_set 2 nd (ge_op op_dAdd (be_fe (fe_lst (ga_cons (ge_un op_dNeg (be_ge (ge_ix (ix_item hu) (be_ge (ge_var 2)) (be_ge ge_int)))) ga_nil))) (be_ge (ge_slice sl_dSl (be_ge (ge_var 2)) go_none (go_some ge_int)))))))
  (gss_one (gs_ret (ge_callTy c_tuple z.tuple (ba_cons (be_ge (ge_var 2)) ba_nil))))))), hm, F.kp, F.bindsN fun _ _ _ _ _ _ us hl => match us, hl with | [_, _], _ => rfl⟩
abbrev s_law_add : Stmt := top 44
theorem sc_law_add : FnScope ["one", "other", "first", "second"] ["one", "other"] (defScope s_law_add) := ⟨rfl, rfl, rfl, by decide +kernel, rfl, by decide +kernel, by decide +kernel⟩
theorem ok_law_add (z : Bt mg) (F : FunD K "_law_add" "_law_add" (defArgs s_law_add) (defBody s_law_add) (defScope s_law_add) [] [] f fd) (hm : mg "_law_add" = some (.ref f)) : Fd P w K mg base "_law_add" 1 m_law_add :=
  ⟨f, fd, _, fn_ok F sc_law_add 2 rfl (fun cdv A outer s H E hr => by
    have nd := sc_law_add.nd
    have hu := hU hr
    unfold S_law_add
    exact (gss_one (gs_ret (ge_callTy c_tuple z.tuple (ba_cons (be_fe (fe_lc (own := [("first", 2), ("second", 3)]) rfl nd (bi_zipU z.zip (ba_cons (be_ge (ge_var 0)) (ba_cons (be_ge (ge_var 1)) ba_nil))) (blkOk_by (by kernel_rfl)) (by decide) (fun _ _ _ _ _ => (gg_tup 2 (pg_tup rfl (ggs_cons (gg_name 2 nd) (ggs_cons (gg_name 3 nd) ggs_nil))))) (fun _ _ _ _ _ => gts_nil) (fun _ _ _ _ _ => (ge_op op_dAdd (be_ge (ge_var 2)) (be_ge (ge_var 3)))))) ba_nil))))), hm, F.kp, F.bindsN fun _ _ _ _ _ _ us hl => match us, hl with | [_, _], _ => rfl⟩
abbrev s_law_step : Stmt := top 45
theorem sc_law_step : FnScope ["spot", "way", "piece", "side", "chord"] ["spot", "way", "piece"] (defScope s_law_step) := ⟨rfl, rfl, rfl, by decide +kernel, rfl, by decide +kernel, by decide +kernel⟩
theorem ok_law_step (z : Bt mg) (h_law_add : Fd P w K mg base "_law_add" 1 m_law_add) (h_law_times : Fd P w K mg base "_law_times" 1 m_law_times) (F : FunD K "_law_step" "_law_step" (defArgs s_law_step) (defBody s_law_step) (defScope s_law_step) [] [] f fd) (hm : mg "_law_step" = some (.ref f)) : Fd P w K mg base "_law_step" 2 m_law_step :=
  ⟨f, fd, _, fn_ok F sc_law_step 3 rfl (fun cdv A outer s H E hr => by
    have nd := sc_law_step.nd
    have hu := hU hr
    unfold S_law_step
    exact (gss_cons (gs_if (gt_cmp (op_dEq hu) (be_ge (ge_var 2)) (be_ge (ge_str [115])) (nomark _))
  (gss_one (gs_ret (ge_tup (ga_cons (ge_f h_law_add (hr.mono (by decide)) (ga_cons (ge_var 0) (ga_cons (ge_f h_law_times (hr.mono (by decide)) (ga_cons (ge_tup (ga_cons ge_int (ga_cons ge_int (ga_cons ge_int (ga_cons ge_int ga_nil))))) (ga_cons (ge_var 1) ga_nil))) ga_nil))) (ga_cons (ge_var 1) ga_nil)))))
  gss_nil)
  (gss_cons (gs_set 3 nd (ge_if (gt_cmp (op_dEq hu) (be_ge (ge_var 2)) (be_ge (ge_str [108])) (nomark _)) ge_int (ge_un op_dNeg (be_ge ge_int))))
  (gss_cons (gs_set 4 nd (ge_f h_law_add (hr.mono (by decide)) (ga_cons (ge_f h_law_times (hr.mono (by decide)) (ga_cons (ge_tup (ga_cons ge_int (ga_cons ge_int (ga_cons ge_int (ga_cons ge_int ga_nil))))) (ga_cons (ge_op op_dSub (be_ge (ge_var 1)) (be_ge (ge_var 3))) ga_nil))) (ga_cons (ge_f h_law_times (hr.mono (by decide)) (ga_cons (ge_tup (ga_cons ge_int (ga_cons ge_int (ga_cons ge_int (ga_cons ge_int ga_nil))))) (ga_cons (ge_op op_dAdd (be_ge (ge_op op_dSub (be_ge (ge_var 1)) (be_ge (ge_op op_dMul (be_ge ge_int) (be_ge (ge_var 3)))))) (be_ge ge_int)) ga_nil))) ga_nil))))
  (gss_one (gs_ret (ge_tup (ga_cons (ge_f h_law_add (hr.mono (by decide)) (ga_cons (ge_var 0) (ga_cons (ge_var 4) ga_nil))) (ga_cons (ge_op op_dMod (be_ge (ge_callTy c_int z.int (ba_cons (be_ge (ge_op op_dAdd (be_ge (ge_var 1)) (be_ge (ge_var 3)))) ba_nil))) (be_ge ge_int)) ga_nil))))))))), hm, F.kp, F.bindsN fun _ _ _ _ _ _ us hl => match us, hl with | [_, _, _], _ => rfl⟩
abbrev s_law_told_of : Stmt := top 46
theorem sc_law_told_of : FnScope ["spot", "way"] ["spot", "way"] (defScope s_law_told_of) := ⟨rfl, rfl, rfl, by decide +kernel, rfl, by decide +kernel, by decide +kernel⟩
theorem ok_law_told_of (z : Bt mg) (F : FunD K "_law_told_of" "_law_told_of" (defArgs s_law_told_of) (defBody s_law_told_of) (defScope s_law_told_of) [] [] f fd) (hm : mg "_law_told_of" = some (.ref f)) : Fd P w K mg base "_law_told_of" 1 m_law_told_of :=
  ⟨f, fd, _, fn_ok F sc_law_told_of 2 rfl (fun cdv A outer s H E hr => by
    have nd := sc_law_told_of.nd
    have hu := hU hr
    unfold S_law_told_of
    exact (gss_one (gs_ret (ge_tup (ga_cons (ge_tup (ga_cons (ge_op op_dMul (be_ge ge_int) (be_ge (ge_ix (ix_item hu) (be_ge (ge_var 0)) (be_ge ge_int)))) (ga_cons (ge_op op_dSub (be_ge (ge_ix (ix_item hu) (be_ge (ge_var 0)) (be_ge ge_int))) (be_ge (ge_ix (ix_item hu) (be_ge (ge_var 0)) (be_ge ge_int)))) ga_nil))) (ga_cons (ge_tup (ga_cons (ge_op op_dMul (be_ge ge_int) (be_ge (ge_ix (ix_item hu) (be_ge (ge_var 0)) (be_ge ge_int)))) (ga_cons (ge_op op_dAdd (be_ge (ge_ix (ix_item hu) (be_ge (ge_var 0)) (be_ge ge_int))) (be_ge (ge_ix (ix_item hu) (be_ge (ge_var 0)) (be_ge ge_int)))) ga_nil))) (ga_cons (ge_var 1) ga_nil))))))), hm, F.kp, F.bindsN fun _ _ _ _ _ _ us hl => match us, hl with | [_, _], _ => rfl⟩
abbrev s_law_trail : Stmt := top 47
theorem sc_law_trail : FnScope ["word", "found", "piece"] ["word"] (defScope s_law_trail) := ⟨rfl, rfl, rfl, by decide +kernel, rfl, by decide +kernel, by decide +kernel⟩
theorem ok_law_trail (z : Bt mg) (h_law_step : Fd P w K mg base "_law_step" 2 m_law_step) (F : FunD K "_law_trail" "_law_trail" (defArgs s_law_trail) (defBody s_law_trail) (defScope s_law_trail) [] [] f fd) (hm : mg "_law_trail" = some (.ref f)) : Fd P w K mg base "_law_trail" 3 m_law_trail :=
  ⟨f, fd, _, fn_ok F sc_law_trail 1 rfl (fun cdv A outer s H E hr => by
    have nd := sc_law_trail.nd
    have hu := hU hr
    unfold S_law_trail
    exact (gss_cons (gs_setO 1 nd (fe_lst (ga_cons (ge_tup (ga_cons (ge_tup (ga_cons ge_int (ga_cons ge_int (ga_cons ge_int (ga_cons ge_int ga_nil))))) (ga_cons ge_int ga_nil))) ga_nil)))
  (gss_cons (gs_for PassesOwn.never rfl (gi_seq (ge_var 0)) (gg_name 2 nd)
  (gss_one (gs_append 1 (pe_bm PySem.F.plainAttrs_list PySem.F.slot_list_append PySem.F.type_list_append mt_append (pv 1) (pa_cons (ge_f h_law_step (hr.mono (by decide)) (ga_cons (ge_ix (ix_item hu) (be_ge (ge_ix (ix_item hu) (be_var 1) (be_ge (ge_un op_dNeg (be_ge ge_int))))) (be_ge ge_int)) (ga_cons (ge_ix (ix_item hu) (be_ge (ge_ix (ix_item hu) (be_var 1) (be_ge (ge_un op_dNeg (be_ge ge_int))))) (be_ge ge_int)) (ga_cons (ge_var 2) ga_nil)))) pa_nil)))))
  (gss_one (gs_frz 1 (gs_ret (ge_var 1))))))), hm, F.kp, F.bindsN fun _ _ _ _ _ _ us hl => match us, hl with | [_], _ => rfl⟩
abbrev s_law_root : Stmt := top 48
theorem sc_law_root : FnScope ["number", "low", "step"] ["number"] (defScope s_law_root) := ⟨rfl, rfl, rfl, by decide +kernel, rfl, by decide +kernel, by decide +kernel⟩
theorem ok_law_root (z : Bt mg) (F : FunD K "_law_root" "_law_root" (defArgs s_law_root) (defBody s_law_root) (defScope s_law_root) [] [] f fd) (hm : mg "_law_root" = some (.ref f)) : Fd P w K mg base "_law_root" 1 m_law_root :=
  ⟨f, fd, _, fn_ok F sc_law_root 1 rfl (fun cdv A outer s H E hr => by
    have nd := sc_law_root.nd
    have hu := hU hr
    unfold S_law_root
    exact (gss_cons (gs_parGGc 1 2 (ps_asg (pe_tup (pa_cons ge_int (pa_cons ge_int pa_nil))) (pg_tup rfl (pgs_cons (pg_name (i := 1) nd rfl (by first | exact Or.inl rfl | exact Or.inr rfl)) (pgs_cons (pg_name (i := 2) nd rfl (by first | exact Or.inl rfl | exact Or.inr rfl)) pgs_nil)))))
  (gss_cons (gs_while PassesOwn.never (gt_cmp op_dLe (be_ge (ge_op op_dMul (be_ge (ge_var 2)) (be_ge (ge_var 2)))) (be_ge (ge_var 0)) (nomark _))
  (gss_one (gs_set 2 nd (ge_op op_dMul (be_ge ge_int) (be_ge (ge_var 2))))))
  (gss_cons (gs_while PassesOwn.never (gt_cmp op_dGt (be_ge (ge_var 2)) (be_ge ge_int) (nomark _))
  (gss_one (gs_par 1 2 rfl nd (ga_cons (ge_if (gt_cmp op_dLe (be_ge (ge_op op_dMul (be_ge (ge_op op_dAdd (be_ge (ge_var 1)) (be_ge (ge_var 2)))) (be_ge (ge_op op_dAdd (be_ge (ge_var 1)) (be_ge (ge_var 2)))))) (be_ge (ge_var 0)) (nomark _)) (ge_op op_dAdd (be_ge (ge_var 1)) (be_ge (ge_var 2))) (ge_var 1)) (ga_cons (ge_op op_dDiv (be_ge (ge_var 2)) (be_ge ge_int)) ga_nil)) (h := ps_par rfl nd rfl rfl (by decide) rfl rfl (ga_cons (ge_if (gt_cmp op_dLe (be_ge (ge_op op_dMul (be_ge (ge_op op_dAdd (be_ge (ge_var 1)) (be_ge (ge_var 2)))) (be_ge (ge_op op_dAdd (be_ge (ge_var 1)) (be_ge (ge_var 2)))))) (be_ge (ge_var 0)) (nomark _)) (ge_op op_dAdd (be_ge (ge_var 1)) (be_ge (ge_var 2))) (ge_var 1)) (ga_cons (ge_op op_dDiv (be_ge (ge_var 2)) (be_ge ge_int)) ga_nil)) (by rfl)))))
  (gss_one (gs_ret (ge_var 1))))))), hm, F.kp, F.bindsN fun _ _ _ _ _ _ us hl => match us, hl with | [_], _ => rfl⟩
abbrev s_law_sign : Stmt := top 49
theorem sc_law_sign : FnScope ["number", "whole", "part"] ["number"] (defScope s_law_sign) := ⟨rfl, rfl, rfl, by decide +kernel, rfl, by decide +kernel, by decide +kernel⟩
theorem ok_law_sign (z : Bt mg) (h_law_root : Fd P w K mg base "_law_root" 1 m_law_root) (F : FunD K "_law_sign" "_law_sign" (defArgs s_law_sign) (defBody s_law_sign) (defScope s_law_sign) [] [] f fd) (hm : mg "_law_sign" = some (.ref f)) : Fd P w K mg base "_law_sign" 2 m_law_sign :=
  ⟨f, fd, _, fn_ok F sc_law_sign 1 rfl (fun cdv A outer s H E hr => by
    have nd := sc_law_sign.nd
    have hu := hU hr
    unfold S_law_sign
    exact (gss_cons (gs_par 1 2 rfl nd (ga_cons (ge_ix (ix_item hu) (be_ge (ge_var 0)) (be_ge ge_int)) (ga_cons (ge_f h_law_root (hr.mono (by decide)) (ga_cons (ge_op op_dMul (be_ge (ge_op op_dMul (be_ge ge_int) (be_ge (ge_ix (ix_item hu) (be_ge (ge_var 0)) (be_ge ge_int))))) (be_ge (ge_ix (ix_item hu) (be_ge (ge_var 0)) (be_ge ge_int)))) ga_nil)) ga_nil)) (h := ps_par rfl nd rfl rfl (by decide) rfl rfl (ga_cons (ge_ix (ix_item hu) (be_ge (ge_var 0)) (be_ge ge_int)) (ga_cons (ge_f h_law_root (hr.mono (by decide)) (ga_cons (ge_op op_dMul (be_ge (ge_op op_dMul (be_ge ge_int) (be_ge (ge_ix (ix_item hu) (be_ge (ge_var 0)) (be_ge ge_int))))) (be_ge (ge_ix (ix_item hu) (be_ge (ge_var 0)) (be_ge ge_int)))) ga_nil)) ga_nil)) (by rfl)))
  (gss_cons (gs_if (gt_cmp (op_dEq hu) (be_ge (ge_ix (ix_item hu) (be_ge (ge_var 0)) (be_ge ge_int))) (be_ge ge_int) (nomark _))
  (gss_one (gs_ret (ge_if (gt_cmp op_dGt (be_ge (ge_var 1)) (be_ge ge_int) (nomark _)) ge_int (ge_if (gt_cmp op_dLt (be_ge (ge_var 1)) (be_ge ge_int) (nomark _)) (ge_un op_dNeg (be_ge ge_int)) ge_int))))
  gss_nil)
  (gss_cons (gs_if (gt_cmp op_dGt (be_ge (ge_ix (ix_item hu) (be_ge (ge_var 0)) (be_ge ge_int))) (be_ge ge_int) (nomark _))
  (gss_one (gs_ret (ge_if (gt_cmp op_dGe (be_ge (ge_var 1)) (be_ge (ge_un op_dNeg (be_ge (ge_var 2)))) (nomark _)) ge_int (ge_un op_dNeg (be_ge ge_int)))))
  gss_nil)
  (gss_one (gs_ret (ge_if (gt_cmp op_dGt (be_ge (ge_var 1)) (be_ge (ge_var 2)) (nomark _)) ge_int (ge_un op_dNeg (be_ge ge_int))))))))), hm, F.kp, F.bindsN fun _ _ _ _ _ _ us hl => match us, hl with | [_], _ => rfl⟩
abbrev s_law_less : Stmt := top 50
theorem sc_law_less : FnScope ["one", "other"] ["one", "other"] (defScope s_law_less) := ⟨rfl, rfl, rfl, by decide +kernel, rfl, by decide +kernel, by decide +kernel⟩
theorem ok_law_less (z : Bt mg) (h_law_sign : Fd P w K mg base "_law_sign" 2 m_law_sign) (F : FunD K "_law_less" "_law_less" (defArgs s_law_less) (defBody s_law_less) (defScope s_law_less) [] [] f fd) (hm : mg "_law_less" = some (.ref f)) : Fd P w K mg base "_law_less" 3 m_law_less :=
  ⟨f, fd, _, fn_ok F sc_law_less 2 rfl (fun cdv A outer s H E hr => by
    have nd := sc_law_less.nd
    have hu := hU hr
    unfold S_law_less
    exact (gss_one (gs_ret (ge_cmp op_dLt (be_ge (ge_f h_law_sign (hr.mono (by decide)) (ga_cons (ge_tup (ga_cons (ge_op op_dSub (be_ge (ge_ix (ix_item hu) (be_ge (ge_var 0)) (be_ge ge_int))) (be_ge (ge_ix (ix_item hu) (be_ge (ge_var 1)) (be_ge ge_int)))) (ga_cons (ge_op op_dSub (be_ge (ge_ix (ix_item hu) (be_ge (ge_var 0)) (be_ge ge_int))) (be_ge (ge_ix (ix_item hu) (be_ge (ge_var 1)) (be_ge ge_int)))) ga_nil))) ga_nil))) (be_ge ge_int) (nomark _))))), hm, F.kp, F.bindsN fun _ _ _ _ _ _ us hl => match us, hl with | [_, _], _ => rfl⟩
abbrev s_law_number : Stmt := top 51
theorem sc_law_number : FnScope ["cup", "far", "whole", "part", "near"] ["cup"] (defScope s_law_number) := ⟨rfl, rfl, rfl, by decide +kernel, rfl, by decide +kernel, by decide +kernel⟩
theorem ok_law_number (z : Bt mg) (h_law_some : Fd P w K mg base "_law_some" 2 m_law_some) (h_law_roll : Fd P w K mg base "_law_roll" 1 m_law_roll) (h_law_root : Fd P w K mg base "_law_root" 1 m_law_root) (F : FunD K "_law_number" "_law_number" (defArgs s_law_number) (defBody s_law_number) (defScope s_law_number) [] [] f fd) (hm : mg "_law_number" = some (.ref f)) : Fd P w K mg base "_law_number" 3 m_law_number :=
  ⟨f, fd, _, fn_ok F sc_law_number 1 rfl (fun cdv A outer s H E hr => by
    have nd := sc_law_number.nd
    have hu := hU hr
    unfold S_law_number
    exact (gss_cons (gs_set 1 nd (ge_f h_law_some (hr.mono (by decide)) (ga_cons (ge_var 0) (ga_cons (ge_fe (fe_lst (ga_cons ge_int (ga_cons ge_int (ga_cons (ge_op op_dPow (be_ge ge_int) (be_ge ge_int)) (ga_cons (ge_op op_dPow (be_ge ge_int) (be_ge ge_int)) ga_nil)))))) ga_nil))))
  (gss_cons (gs_par 2 3 rfl nd (ga_cons (ge_op op_dSub (be_ge (ge_f h_law_roll (hr.mono (by decide)) (ga_cons (ge_var 0) (ga_cons (ge_op op_dAdd (be_ge (ge_op op_dMul (be_ge ge_int) (be_ge (ge_var 1)))) (be_ge ge_int)) ga_nil)))) (be_ge (ge_var 1))) (ga_cons (ge_op op_dSub (be_ge (ge_f h_law_roll (hr.mono (by decide)) (ga_cons (ge_var 0) (ga_cons (ge_op op_dAdd (be_ge (ge_op op_dMul (be_ge ge_int) (be_ge (ge_var 1)))) (be_ge ge_int)) ga_nil)))) (be_ge (ge_var 1))) ga_nil)) (h := ps_par rfl nd rfl rfl (by decide) rfl rfl (ga_cons (ge_op op_dSub (be_ge (ge_f h_law_roll (hr.mono (by decide)) (ga_cons (ge_var 0) (ga_cons (ge_op op_dAdd (be_ge (ge_op op_dMul (be_ge ge_int) (be_ge (ge_var 1)))) (be_ge ge_int)) ga_nil)))) (be_ge (ge_var 1))) (ga_cons (ge_op op_dSub (be_ge (ge_f h_law_roll (hr.mono (by decide)) (ga_cons (ge_var 0) (ga_cons (ge_op op_dAdd (be_ge (ge_op op_dMul (be_ge ge_int) (be_ge (ge_var 1)))) (be_ge ge_int)) ga_nil)))) (be_ge (ge_var 1))) ga_nil)) (by rfl)))
  (gss_cons (gs_set 4 nd (ge_op op_dSub (be_ge (ge_op op_dAdd (be_ge (ge_op op_dMul (be_ge (ge_f h_law_root (hr.mono (by decide)) (ga_cons (ge_op op_dMul (be_ge (ge_op op_dMul (be_ge ge_int) (be_ge (ge_var 3)))) (be_ge (ge_var 3))) ga_nil))) (be_ge (ge_f h_law_some (hr.mono (by decide)) (ga_cons (ge_var 0) (ga_cons (ge_fe (fe_lst (ga_cons ge_int (ga_cons (ge_un op_dNeg (be_ge ge_int)) ga_nil)))) ga_nil)))))) (be_ge (ge_f h_law_roll (hr.mono (by decide)) (ga_cons (ge_var 0) (ga_cons ge_int ga_nil)))))) (be_ge ge_int)))
  (gss_one (gs_ret (ge_f h_law_some (hr.mono (by decide)) (ga_cons (ge_var 0) (ga_cons (ge_fe (fe_lst (ga_cons (ge_tup (ga_cons (ge_var 2) (ga_cons (ge_var 3) ga_nil))) (ga_cons (ge_if (gt_cmp op_dLe (be_ge (ge_callB (c_max rfl) z.max (ba_cons (be_ge (ge_var 4)) (ba_cons (be_ge (ge_un op_dNeg (be_ge (ge_var 4)))) ba_nil)))) (be_ge (ge_op op_dPow (be_ge ge_int) (be_ge ge_int))) (nomark _)) (ge_tup (ga_cons (ge_var 4) (ga_cons (ge_var 3) ga_nil))) (ge_tup (ga_cons (ge_var 2) (ga_cons (ge_var 3) ga_nil)))) ga_nil)))) ga_nil))))))))), hm, F.kp, F.bindsN fun _ _ _ _ _ _ us hl => match us, hl with | [_], _ => rfl⟩
abbrev s_law : Stmt := top 52
theorem sc_law : FnScope ["script", "cup", "turn", "one", "other", "whole", "due", "word", "places", "box", "at", "side", "sign", "numbers", "gaps", "squares", "right", "up", "way", "told", "spot", "place", "own", "gap"] ["script"] (defScope s_law) := ⟨rfl, rfl, rfl, by decide +kernel, rfl, by decide +kernel, by decide +kernel⟩
theorem okL_law (z : Bt mg) (h_law_cup : Fd P w K mg base "_law_cup" 1 m_law_cup) (h_law_number : Fd P w K mg base "_law_number" 3 m_law_number) (h_law_same : Fd P w K mg base "_law_same" 13 m_law_same) (h_law_less : Fd P w K mg base "_law_less" 3 m_law_less) (h_law_sign : Fd P w K mg base "_law_sign" 2 m_law_sign) (h_is_less : Fd P w K mg base "is_less" 5 m_is_less) (h_sign_of : Fd P w K mg base "sign_of" 5 m_sign_of) (h_whole_of : Fd P w K mg base "whole_of" 5 m_whole_of) (h_product : Fd P w K mg base "product" 5 m_product) (h_law_word : Fd P w K mg base "_law_word" 3 m_law_word) (h_law_some : Fd P w K mg base "_law_some" 2 m_law_some) (h_law_trail : Fd P w K mg base "_law_trail" 3 m_law_trail) (h_law_told_of : Fd P w K mg base "_law_told_of" 1 m_law_told_of) (h_box_by_eighths : Fd P w K mg base "box_by_eighths" 4 m_box_by_eighths) (h_farthest_place : Fd P w K mg base "farthest_place" 4 m_farthest_place) (h_far_squared : Fd P w K mg base "far_squared" 4 m_far_squared) (h_cell_of : Fd P w K mg base "cell_of" 4 m_cell_of) (F : FunD K "law" "law" (defArgs s_law) (defBody s_law) (defScope s_law) [] [] f fd) : FnOk P w K mg base CX0 14 f fd ["script"] (SpG K m_law) :=
  fn_ok F sc_law 1 rfl (fun cdv A outer s H E hr => by
    have nd := sc_law.nd
    have hu := hU hr
    unfold S_law
    exact (gss_cons (gs_set 1 nd (ge_f h_law_cup (hr.mono (by decide)) (ga_cons (ge_var 0) ga_nil)))
  (gss_cons (gs_for PassesOwn.never rfl (gi_rng1 z.range (ga_cons ge_int ga_nil)) (gg_name 2 nd)
  (gss_cons (gs_par 3 4 rfl nd (ga_cons (ge_f h_law_number (hr.mono (by decide)) (ga_cons (ge_var 1) ga_nil)) (ga_cons (ge_f h_law_number (hr.mono (by decide)) (ga_cons (ge_var 1) ga_nil)) ga_nil)) (h := ps_par rfl nd rfl rfl (by decide) rfl rfl (ga_cons (ge_f h_law_number (hr.mono (by decide)) (ga_cons (ge_var 1) ga_nil)) (ga_cons (ge_f h_law_number (hr.mono (by decide)) (ga_cons (ge_var 1) ga_nil)) ga_nil)) (by rfl)))
  (gss_cons (gs_if (gt_not (gt_of (ge_f h_law_same (hr.mono (by decide)) (ga_cons (ge_tup (ga_cons (ge_f h_sign_of (hr.mono (by decide)) (ga_cons (ge_var 3) ga_nil)) (ga_cons (ge_f h_is_less (hr.mono (by decide)) (ga_cons (ge_var 3) (ga_cons (ge_var 4) ga_nil))) ga_nil))) (ga_cons (ge_tup (ga_cons (ge_f h_law_sign (hr.mono (by decide)) (ga_cons (ge_var 3) ga_nil)) (ga_cons (ge_f h_law_less (hr.mono (by decide)) (ga_cons (ge_var 3) (ga_cons (ge_var 4) ga_nil))) ga_nil))) ga_nil)))))
  (gss_one (gs_ret ge_bl))
  gss_nil)
  (gss_cons (gs_set 5 nd (ge_f h_whole_of (hr.mono (by decide)) (ga_cons (ge_var 3) ga_nil)))
  (gss_cons (gs_if (gt_w (gw_or (gt_of (ge_callB c_isi z.isinstance (ba_cons (be_ge (ge_var 5)) (ba_cons (be_ge (ge_ty "bool" z.bool)) ba_nil)))) (gw_or1 (gt_not (gt_of (ge_callB c_isi z.isinstance (ba_cons (be_ge (ge_var 5)) (ba_cons (be_ge (ge_ty "int" z.int)) ba_nil))))))))
  (gss_one (gs_ret ge_bl))
  gss_nil)
  (gss_cons (gs_if (gt_w (gw_or (gt_cmp op_dLt (be_ge (ge_f h_law_sign (hr.mono (by decide)) (ga_cons (ge_tup (ga_cons (ge_op op_dSub (be_ge (ge_ix (ix_item hu) (be_ge (ge_var 3)) (be_ge ge_int))) (be_ge (ge_op op_dMul (be_ge ge_int) (be_ge (ge_var 5))))) (ga_cons (ge_ix (ix_item hu) (be_ge (ge_var 3)) (be_ge ge_int)) ga_nil))) ga_nil))) (be_ge ge_int) (nomark _)) (gw_or1 (gt_cmp op_dGe (be_ge (ge_f h_law_sign (hr.mono (by decide)) (ga_cons (ge_tup (ga_cons (ge_op op_dSub (be_ge (ge_op op_dSub (be_ge (ge_ix (ix_item hu) (be_ge (ge_var 3)) (be_ge ge_int))) (be_ge (ge_op op_dMul (be_ge ge_int) (be_ge (ge_var 5)))))) (be_ge ge_int)) (ga_cons (ge_ix (ix_item hu) (be_ge (ge_var 3)) (be_ge ge_int)) ga_nil))) ga_nil))) (be_ge ge_int) (nomark _)))))
  (gss_one (gs_ret ge_bl))
  gss_nil)
  (gss_cons (gs_set 6 nd (ge_tup (ga_cons (ge_op op_dAdd (be_ge (ge_op op_dMul (be_ge (ge_ix (ix_item hu) (be_ge (ge_var 3)) (be_ge ge_int))) (be_ge (ge_ix (ix_item hu) (be_ge (ge_var 4)) (be_ge ge_int))))) (be_ge (ge_op op_dMul (be_ge (ge_op op_dMul (be_ge (ge_ix (ix_item hu) (be_ge (ge_var 3)) (be_ge ge_int))) (be_ge (ge_ix (ix_item hu) (be_ge (ge_var 4)) (be_ge ge_int))))) (be_ge ge_int)))) (ga_cons (ge_op op_dAdd (be_ge (ge_op op_dMul (be_ge (ge_ix (ix_item hu) (be_ge (ge_var 3)) (be_ge ge_int))) (be_ge (ge_ix (ix_item hu) (be_ge (ge_var 4)) (be_ge ge_int))))) (be_ge (ge_op op_dMul (be_ge (ge_ix (ix_item hu) (be_ge (ge_var 3)) (be_ge ge_int))) (be_ge (ge_ix (ix_item hu) (be_ge (ge_var 4)) (be_ge ge_int)))))) ga_nil))))
  (gss_one (gs_if (gt_w (gw_or (gt_not (gt_of (ge_f h_law_same (hr.mono (by decide)) (ga_cons (ge_f h_product (hr.mono (by decide)) (ga_cons (ge_var 3) (ga_cons (ge_var 4) ga_nil))) (ga_cons (ge_var 6) ga_nil))))) (gw_or1 (gt_cmp (op_dNe hu) (be_ge (ge_f h_law_sign (hr.mono (by decide)) (ga_cons (ge_var 6) ga_nil))) (be_ge (ge_op op_dMul (be_ge (ge_f h_law_sign (hr.mono (by decide)) (ga_cons (ge_var 3) ga_nil))) (be_ge (ge_f h_law_sign (hr.mono (by decide)) (ga_cons (ge_var 4) ga_nil))))) (nomark _)))))
  (gss_one (gs_ret ge_bl))
  gss_nil)))))))))
  (gss_cons (gs_for PassesOwn.never rfl (gi_rng1 z.range (ga_cons ge_int ga_nil)) (gg_name 2 nd)
  (gss_cons (gs_set 7 nd (ge_f h_law_word (hr.mono (by decide)) (ga_cons (ge_var 1) (ga_cons (ge_f h_law_some (hr.mono (by decide)) (ga_cons (ge_var 1) (ga_cons (ge_fe (fe_lst (ga_cons ge_int (ga_cons ge_int ga_nil)))) ga_nil))) ga_nil))))
  (gss_cons (gs_setZ 8 (gs_lc 8 (own := [("spot", 20), ("way", 18)]) rfl nd (bi_seq (be_ge (ge_f h_law_trail (hr.mono (by decide)) (ga_cons (ge_var 7) ga_nil)))) (blkOk_by (by kernel_rfl)) (by decide) (fun _ _ _ _ _ => (gg_tup 2 (pg_tup rfl (ggs_cons (gg_name 20 nd) (ggs_cons (gg_name 18 nd) ggs_nil))))) (fun _ _ _ _ _ => gts_nil) (fun _ _ _ _ _ => (ge_f h_law_told_of (hr.mono (by decide)) (ga_cons (ge_var 20) (ga_cons (ge_var 18) ga_nil)))) (sw_true rfl rfl rfl (by kernel_rfl))))
  (gss_cons (gs_set 9 nd (ge_f h_box_by_eighths (hr.mono (by decide)) (ga_cons (ge_var 7) ga_nil)))
  (gss_cons (gs_for PassesOwn.never rfl (gi_seq (ge_tup (ga_cons (ge_tup (ga_cons ge_int (ga_cons ge_int (ga_cons ge_int ga_nil)))) (ga_cons (ge_tup (ga_cons ge_int (ga_cons ge_int (ga_cons (ge_un op_dNeg (be_ge ge_int)) ga_nil)))) (ga_cons (ge_tup (ga_cons ge_int (ga_cons ge_int (ga_cons ge_int ga_nil)))) (ga_cons (ge_tup (ga_cons ge_int (ga_cons ge_int (ga_cons (ge_un op_dNeg (be_ge ge_int)) ga_nil)))) ga_nil)))))) (gg_tup 3 (pg_tup rfl (ggs_cons (gg_name 10 nd) (ggs_cons (gg_name 11 nd) (ggs_cons (gg_name 12 nd) ggs_nil)))))
  (gss_cons (gs_setZ 13 (gs_lc 13 (own := [("place", 21)]) rfl nd (bi_seq (be_ge (ge_var 8))) (blkOk_by (by kernel_rfl)) (by decide) (fun _ _ _ _ _ => (gg_name 21 nd)) (fun _ _ _ _ _ => gts_nil) (fun _ _ _ _ _ => (ge_ix (ix_item hu) (be_ge (ge_var 21)) (be_ge (ge_var 11)))) (sw_true rfl rfl rfl (by kernel_rfl))))
  (gss_cons (gs_setZ 14 (gs_lc 14 (own := [("own", 22)]) rfl nd (bi_seq (be_ge (ge_var 13))) (blkOk_by (by kernel_rfl)) (by decide) (fun _ _ _ _ _ => (gg_name 22 nd)) (fun _ _ _ _ _ => gts_nil) (fun _ _ _ _ _ => (ge_tup (ga_cons (ge_op op_dMul (be_ge (ge_var 12)) (be_ge (ge_op op_dSub (be_ge (ge_ix (ix_item hu) (be_ge (ge_var 22)) (be_ge ge_int))) (be_ge (ge_ix (ix_item hu) (be_ge (ge_ix (ix_item hu) (be_ge (ge_var 9)) (be_ge (ge_var 10)))) (be_ge ge_int)))))) (ga_cons (ge_op op_dMul (be_ge (ge_var 12)) (be_ge (ge_op op_dSub (be_ge (ge_ix (ix_item hu) (be_ge (ge_var 22)) (be_ge ge_int))) (be_ge (ge_ix (ix_item hu) (be_ge (ge_ix (ix_item hu) (be_ge (ge_var 9)) (be_ge (ge_var 10)))) (be_ge ge_int)))))) ga_nil)))) (sw_true rfl rfl rfl (by kernel_rfl))))
  (gss_one (gs_if (gt_w (gw_or (gt_cmp (op_dNotInA hu) (be_ge (ge_ix (ix_item hu) (be_ge (ge_var 9)) (be_ge (ge_var 10)))) (be_ge (ge_var 13)) (by rfl)) (gw_or1 (gt_cmp (op_dNe hu) (be_fe (fe_lc (own := [("gap", 23)]) rfl nd (bi_seq (be_ge (ge_var 14))) (blkOk_by (by kernel_rfl)) (by decide) (fun _ _ _ _ _ => (gg_name 23 nd)) (fun _ _ _ _ _ => (gts_one (gt_cmp op_dLt (be_ge (ge_f h_law_sign (hr.mono (by decide)) (ga_cons (ge_var 23) ga_nil))) (be_ge ge_int) (nomark _)))) (fun _ _ _ _ _ => (ge_var 23)))) (be_fe (fe_lst ga_nil)) (nomark _)))))
  (gss_one (gs_ret ge_bl))
  gss_nil)))))
  (gss_cons (gs_setO 15 nd (fe_lst ga_nil))
  (gss_cons (gs_for PassesOwn.never rfl (gi_seq (ge_var 8)) (gg_tup 3 (pg_tup rfl (ggs_cons (gg_name 16 nd) (ggs_cons (gg_name 17 nd) (ggs_cons (gg_name 18 nd) ggs_nil)))))
  (gss_cons (gs_set 5 nd (ge_op op_dAdd (be_ge (ge_op op_dAdd (be_ge (ge_op op_dMul (be_ge (ge_ix (ix_item hu) (be_ge (ge_var 16)) (be_ge ge_int))) (be_ge (ge_ix (ix_item hu) (be_ge (ge_var 16)) (be_ge ge_int))))) (be_ge (ge_op op_dMul (be_ge (ge_ix (ix_item hu) (be_ge (ge_var 17)) (be_ge ge_int))) (be_ge (ge_ix (ix_item hu) (be_ge (ge_var 17)) (be_ge ge_int))))))) (be_ge (ge_op op_dMul (be_ge ge_int) (be_ge (ge_op op_dAdd (be_ge (ge_op op_dMul (be_ge (ge_ix (ix_item hu) (be_ge (ge_var 16)) (be_ge ge_int))) (be_ge (ge_ix (ix_item hu) (be_ge (ge_var 16)) (be_ge ge_int))))) (be_ge (ge_op op_dMul (be_ge (ge_ix (ix_item hu) (be_ge (ge_var 17)) (be_ge ge_int))) (be_ge (ge_ix (ix_item hu) (be_ge (ge_var 17)) (be_ge ge_int)))))))))))
  (gss_one (gs_append 15 (pe_bm PySem.F.plainAttrs_list PySem.F.slot_list_append PySem.F.type_list_append mt_append (pv 15) (pa_cons (ge_tup (ga_cons (ge_var 5) (ga_cons (ge_op op_dMul (be_ge ge_int) (be_ge (ge_op op_dAdd (be_ge (ge_op op_dMul (be_ge (ge_ix (ix_item hu) (be_ge (ge_var 16)) (be_ge ge_int))) (be_ge (ge_ix (ix_item hu) (be_ge (ge_var 16)) (be_ge ge_int))))) (be_ge (ge_op op_dMul (be_ge (ge_ix (ix_item hu) (be_ge (ge_var 17)) (be_ge ge_int))) (be_ge (ge_ix (ix_item hu) (be_ge (ge_var 17)) (be_ge ge_int)))))))) ga_nil))) pa_nil))))))
  (gss_cons (gs_set 10 nd (ge_f h_farthest_place (hr.mono (by decide)) (ga_cons (ge_var 7) ga_nil)))
  (gss_cons (gs_if (gt_w (gw_or (gt_not (gt_of (ge_f h_law_same (hr.mono (by decide)) (ga_cons (ge_f h_far_squared (hr.mono (by decide)) (ga_cons (ge_var 7) ga_nil)) (ga_cons (ge_ix (ix_item hu) (be_var 15) (be_ge (ge_un op_dNeg (be_ge ge_int)))) ga_nil))))) (gw_or1 (gt_cmp (op_dNe hu) (be_fe (fe_lc (own := [("own", 22)]) rfl nd (bi_seq (be_var 15)) (blkOk_by (by kernel_rfl)) (by decide) (fun _ _ _ _ _ => (gg_name 22 nd)) (fun _ _ _ _ _ => (gts_one (gt_of (ge_f h_law_less (hr.mono (by decide)) (ga_cons (ge_ix (ix_item hu) (be_var 15) (be_ge (ge_var 10))) (ga_cons (ge_var 22) ga_nil)))))) (fun _ _ _ _ _ => (ge_var 22)))) (be_fe (fe_lst ga_nil)) (nomark _)))))
  (gss_one (gs_ret ge_bl))
  gss_nil)
  (gss_cons (gs_if (gt_cmp (op_dNe hu) (be_fe (fe_lc (own := [("own", 22)]) rfl nd (bi_seq (be_ge (ge_slice sl_dSl (be_var 15) go_none (go_some (ge_var 10))))) (blkOk_by (by kernel_rfl)) (by decide) (fun _ _ _ _ _ => (gg_name 22 nd)) (fun _ _ _ _ _ => (gts_one (gt_not (gt_of (ge_f h_law_less (hr.mono (by decide)) (ga_cons (ge_var 22) (ga_cons (ge_ix (ix_item hu) (be_var 15) (be_ge (ge_var 10))) ga_nil))))))) (fun _ _ _ _ _ => (ge_var 22)))) (be_fe (fe_lst ga_nil)) (nomark _))
  (gss_one (gs_ret ge_bl))
  gss_nil)
  (gss_one (gs_if (gt_not (gt_of (ge_f h_law_same (hr.mono (by decide)) (ga_cons (ge_f h_cell_of (hr.mono (by decide)) (ga_cons (ge_var 7) ga_nil)) (ga_cons (ge_tup (ga_cons (ge_f h_whole_of (hr.mono (by decide)) (ga_cons (ge_ix (ix_item hu) (be_ge (ge_ix (ix_item hu) (be_ge (ge_var 8)) (be_ge (ge_un op_dNeg (be_ge ge_int))))) (be_ge ge_int)) ga_nil)) (ga_cons (ge_f h_whole_of (hr.mono (by decide)) (ga_cons (ge_ix (ix_item hu) (be_ge (ge_ix (ix_item hu) (be_ge (ge_var 8)) (be_ge (ge_un op_dNeg (be_ge ge_int))))) (be_ge ge_int)) ga_nil)) ga_nil))) ga_nil)))))
  (gss_one (gs_ret ge_bl))
  gss_nil))))))))))))
  (gss_cons (gs_set 19 nd (ge_tup (ga_cons (ge_f h_sign_of (hr.mono (by decide)) (ga_cons (ge_tup (ga_cons ge_int (ga_cons (ge_un op_dNeg (be_ge ge_int)) ga_nil))) ga_nil)) (ga_cons (ge_f h_sign_of (hr.mono (by decide)) (ga_cons (ge_tup (ga_cons ge_int (ga_cons ge_int ga_nil))) ga_nil)) (ga_cons (ge_f h_whole_of (hr.mono (by decide)) (ga_cons (ge_tup (ga_cons ge_int (ga_cons (ge_op op_dPow (be_ge ge_int) (be_ge ge_int)) ga_nil))) ga_nil)) (ga_cons (ge_f h_whole_of (hr.mono (by decide)) (ga_cons (ge_tup (ga_cons (ge_un op_dNeg (be_ge ge_int)) (ga_cons ge_int ga_nil))) ga_nil)) (ga_cons (ge_f h_is_less (hr.mono (by decide)) (ga_cons (ge_tup (ga_cons ge_int (ga_cons ge_int ga_nil))) (ga_cons (ge_tup (ga_cons ge_int (ga_cons ge_int ga_nil))) ga_nil))) ga_nil)))))))
  (gss_one (gs_ret (ge_f h_law_same (hr.mono (by decide)) (ga_cons (ge_var 19) (ga_cons (ge_tup (ga_cons ge_int (ga_cons ge_int (ga_cons ge_int (ga_cons (ge_un op_dNeg (be_ge ge_int)) (ga_cons ge_bl ga_nil)))))) ga_nil))))))))))
end
def d_is_whole : He.DefD := ⟨("is_whole", none), "is_whole", "is_whole", defArgs s_is_whole, defBody s_is_whole, defScope s_is_whole, [], []⟩
def d_fits_whole : He.DefD := ⟨("fits_whole", none), "fits_whole", "fits_whole", defArgs s_fits_whole, defBody s_fits_whole, defScope s_fits_whole, [], []⟩
def d_is_tuple_of : He.DefD := ⟨("is_tuple_of", none), "is_tuple_of", "is_tuple_of", defArgs s_is_tuple_of, defBody s_is_tuple_of, defScope s_is_tuple_of, [], []⟩
def d_plus : He.DefD := ⟨("plus", none), "plus", "plus", defArgs s_plus, defBody s_plus, defScope s_plus, [], []⟩
def d_minus : He.DefD := ⟨("minus", none), "minus", "minus", defArgs s_minus, defBody s_minus, defScope s_minus, [], []⟩
def d_cosine : He.DefD := ⟨("cosine", none), "cosine", "cosine", defArgs s_cosine, defBody s_cosine, defScope s_cosine, [], []⟩
def d_sine : He.DefD := ⟨("sine", none), "sine", "sine", defArgs s_sine, defBody s_sine, defScope s_sine, [], []⟩
def d_root_below : He.DefD := ⟨("root_below", none), "root_below", "root_below", defArgs s_root_below, defBody s_root_below, defScope s_root_below, [], []⟩
def d_sign_in : He.DefD := ⟨("sign_in", none), "sign_in", "sign_in", defArgs s_sign_in, defBody s_sign_in, defScope s_sign_in, [], []⟩
def d_whole_in : He.DefD := ⟨("whole_in", none), "whole_in", "whole_in", defArgs s_whole_in, defBody s_whole_in, defScope s_whole_in, [], []⟩
def d_behind_in : He.DefD := ⟨("behind_in", none), "behind_in", "behind_in", defArgs s_behind_in, defBody s_behind_in, defScope s_behind_in, [], []⟩
def d_along_in : He.DefD := ⟨("along_in", none), "along_in", "along_in", defArgs s_along_in, defBody s_along_in, defScope s_along_in, [], []⟩
def d_fits_eighths : He.DefD := ⟨("fits_eighths", none), "fits_eighths", "fits_eighths", defArgs s_fits_eighths, defBody s_fits_eighths, defScope s_fits_eighths, [], []⟩
def d_need_eighths : He.DefD := ⟨("need_eighths", none), "need_eighths", "need_eighths", defArgs s_need_eighths, defBody s_need_eighths, defScope s_need_eighths, [], []⟩
def d_fits_number : He.DefD := ⟨("fits_number", none), "fits_number", "fits_number", defArgs s_fits_number, defBody s_fits_number, defScope s_fits_number, [], []⟩
def d_need_number : He.DefD := ⟨("need_number", none), "need_number", "need_number", defArgs s_need_number, defBody s_need_number, defScope s_need_number, [], []⟩
def d_least_in : He.DefD := ⟨("least_in", none), "least_in", "least_in", defArgs s_least_in, defBody s_least_in, defScope s_least_in, [], []⟩
def d_greatest_in : He.DefD := ⟨("greatest_in", none), "greatest_in", "greatest_in", defArgs s_greatest_in, defBody s_greatest_in, defScope s_greatest_in, [], []⟩
def d_square_in : He.DefD := ⟨("square_in", none), "square_in", "square_in", defArgs s_square_in, defBody s_square_in, defScope s_square_in, [], []⟩
def d_sign_of : He.DefD := ⟨("sign_of", none), "sign_of", "sign_of", defArgs s_sign_of, defBody s_sign_of, defScope s_sign_of, [], []⟩
def d_whole_of : He.DefD := ⟨("whole_of", none), "whole_of", "whole_of", defArgs s_whole_of, defBody s_whole_of, defScope s_whole_of, [], []⟩
def d_is_less : He.DefD := ⟨("is_less", none), "is_less", "is_less", defArgs s_is_less, defBody s_is_less, defScope s_is_less, [], []⟩
def d_product : He.DefD := ⟨("product", none), "product", "product", defArgs s_product, defBody s_product, defScope s_product, [], []⟩
def d_box_by_eighths : He.DefD := ⟨("box_by_eighths", none), "box_by_eighths", "box_by_eighths", defArgs s_box_by_eighths, defBody s_box_by_eighths, defScope s_box_by_eighths, [], []⟩
def d_far_squared : He.DefD := ⟨("far_squared", none), "far_squared", "far_squared", defArgs s_far_squared, defBody s_far_squared, defScope s_far_squared, [], []⟩
def d_farthest_place : He.DefD := ⟨("farthest_place", none), "farthest_place", "farthest_place", defArgs s_farthest_place, defBody s_farthest_place, defScope s_farthest_place, [], []⟩
def d_cell_of : He.DefD := ⟨("cell_of", none), "cell_of", "cell_of", defArgs s_cell_of, defBody s_cell_of, defScope s_cell_of, [], []⟩
def d_law_cup : He.DefD := ⟨("_law_cup", none), "_law_cup", "_law_cup", defArgs s_law_cup, defBody s_law_cup, defScope s_law_cup, [], []⟩
def d_law_roll : He.DefD := ⟨("_law_roll", none), "_law_roll", "_law_roll", defArgs s_law_roll, defBody s_law_roll, defScope s_law_roll, [], []⟩
def d_law_some : He.DefD := ⟨("_law_some", none), "_law_some", "_law_some", defArgs s_law_some, defBody s_law_some, defScope s_law_some, [], []⟩
def d_law_same : He.DefD := ⟨("_law_same", none), "_law_same", "_law_same", defArgs s_law_same, defBody s_law_same, defScope s_law_same, [], []⟩
def d_law_word : He.DefD := ⟨("_law_word", none), "_law_word", "_law_word", defArgs s_law_word, defBody s_law_word, defScope s_law_word, [], []⟩
def d_law_times : He.DefD := ⟨("_law_times", none), "_law_times", "_law_times", defArgs s_law_times, defBody s_law_times, defScope s_law_times, [], []⟩
def d_law_add : He.DefD := ⟨("_law_add", none), "_law_add", "_law_add", defArgs s_law_add, defBody s_law_add, defScope s_law_add, [], []⟩
def d_law_step : He.DefD := ⟨("_law_step", none), "_law_step", "_law_step", defArgs s_law_step, defBody s_law_step, defScope s_law_step, [], []⟩
def d_law_told_of : He.DefD := ⟨("_law_told_of", none), "_law_told_of", "_law_told_of", defArgs s_law_told_of, defBody s_law_told_of, defScope s_law_told_of, [], []⟩
def d_law_trail : He.DefD := ⟨("_law_trail", none), "_law_trail", "_law_trail", defArgs s_law_trail, defBody s_law_trail, defScope s_law_trail, [], []⟩
def d_law_root : He.DefD := ⟨("_law_root", none), "_law_root", "_law_root", defArgs s_law_root, defBody s_law_root, defScope s_law_root, [], []⟩
def d_law_sign : He.DefD := ⟨("_law_sign", none), "_law_sign", "_law_sign", defArgs s_law_sign, defBody s_law_sign, defScope s_law_sign, [], []⟩
def d_law_less : He.DefD := ⟨("_law_less", none), "_law_less", "_law_less", defArgs s_law_less, defBody s_law_less, defScope s_law_less, [], []⟩
def d_law_number : He.DefD := ⟨("_law_number", none), "_law_number", "_law_number", defArgs s_law_number, defBody s_law_number, defScope s_law_number, [], []⟩
def d_law : He.DefD := ⟨("law", none), "law", "law", defArgs s_law, defBody s_law, defScope s_law, [], []⟩
def fn : List He.DefD := [d_is_whole, d_fits_whole, d_is_tuple_of, d_plus, d_minus, d_cosine, d_sine, d_root_below, d_sign_in, d_whole_in, d_behind_in, d_along_in, d_fits_eighths, d_need_eighths, d_fits_number, d_need_number, d_least_in, d_greatest_in, d_square_in, d_sign_of, d_whole_of, d_is_less, d_product, d_box_by_eighths, d_far_squared, d_farthest_place, d_cell_of, d_law_cup, d_law_roll, d_law_some, d_law_same, d_law_word, d_law_times, d_law_add, d_law_step, d_law_told_of, d_law_trail, d_law_root, d_law_sign, d_law_less, d_law_number, d_law]
def fa : List He.Fa := btFa ++ [.glo "is_whole", .glo "fits_whole", .glo "is_tuple_of", .glo "plus", .glo "minus", .glo "cosine", .glo "sine", .glo "root_below", .glo "sign_in", .glo "whole_in", .glo "behind_in", .glo "along_in", .glo "fits_eighths", .glo "need_eighths", .glo "fits_number", .glo "need_number", .glo "least_in", .glo "greatest_in", .glo "square_in", .glo "sign_of", .glo "whole_of", .glo "is_less", .glo "product", .glo "box_by_eighths", .glo "far_squared", .glo "farthest_place", .glo "cell_of", .glo "_law_cup", .glo "_law_roll", .glo "_law_some", .glo "_law_same", .glo "_law_word", .glo "_law_times", .glo "_law_add", .glo "_law_step", .glo "_law_told_of", .glo "_law_trail", .glo "_law_root", .glo "_law_sign", .glo "_law_less", .glo "_law_number", .glo "law"]
def cs : List (Str × D) := [("PIECES", c_PIECES), ("LONG", c_LONG), ("GREAT", c_GREAT), ("COSINES", c_COSINES)]
theorem facts {P : Program} {w : World} {K : PySem.W.Frag} {h : Heap} {mg : Str → Option Value} {f : Addr} (X : K.In h) (N : h.Ns mainGlobals mg) (hfa : mg "law" = some (.ref f)) (c : SaysG fa fn cs K) :
    ∃ fd : FuncData, (∀ (s : Shared) (v : Value), BindsTo s fd ⟨[v], []⟩ [("script", v)]) ∧ ∀ base : Heap, K.In base → base.Ns mainGlobals mg → FnOk P w K mg base CX0 14 f fd ["script"] (SpG K m_law) := by
  have z : Bt mg := bt_of fun x hx => He.free_ok X N (c.fm (List.mem_append_left _ (List.mem_map.mpr ⟨x, hx, rfl⟩)))
  have cPIECES : Gc K mg "PIECES" c_PIECES := cst_ok X N (p := ("PIECES", c_PIECES)) (c.c 0)
  have cLONG : Gc K mg "LONG" c_LONG := cst_ok X N (p := ("LONG", c_LONG)) (c.c 1)
  have cGREAT : Gc K mg "GREAT" c_GREAT := cst_ok X N (p := ("GREAT", c_GREAT)) (c.c 2)
  have cCOSINES : Gc K mg "COSINES" c_COSINES := cst_ok X N (p := ("COSINES", c_COSINES)) (c.c 3)
  obtain ⟨fd_is_whole, F_is_whole⟩ := c.d.def_ 0 (d := d_is_whole) rfl
  have g_is_whole : mg "is_whole" = some (.ref _) := He.glo_ok X N (c.d.fact 19 (f := .glo "is_whole") rfl)
  obtain ⟨fd_fits_whole, F_fits_whole⟩ := c.d.def_ 1 (d := d_fits_whole) rfl
  have g_fits_whole : mg "fits_whole" = some (.ref _) := He.glo_ok X N (c.d.fact 20 (f := .glo "fits_whole") rfl)
  obtain ⟨fd_is_tuple_of, F_is_tuple_of⟩ := c.d.def_ 2 (d := d_is_tuple_of) rfl
  have g_is_tuple_of : mg "is_tuple_of" = some (.ref _) := He.glo_ok X N (c.d.fact 21 (f := .glo "is_tuple_of") rfl)
  obtain ⟨fd_plus, F_plus⟩ := c.d.def_ 3 (d := d_plus) rfl
  have g_plus : mg "plus" = some (.ref _) := He.glo_ok X N (c.d.fact 22 (f := .glo "plus") rfl)
  obtain ⟨fd_minus, F_minus⟩ := c.d.def_ 4 (d := d_minus) rfl
  have g_minus : mg "minus" = some (.ref _) := He.glo_ok X N (c.d.fact 23 (f := .glo "minus") rfl)
  obtain ⟨fd_cosine, F_cosine⟩ := c.d.def_ 5 (d := d_cosine) rfl
  have g_cosine : mg "cosine" = some (.ref _) := He.glo_ok X N (c.d.fact 24 (f := .glo "cosine") rfl)
  obtain ⟨fd_sine, F_sine⟩ := c.d.def_ 6 (d := d_sine) rfl
  have g_sine : mg "sine" = some (.ref _) := He.glo_ok X N (c.d.fact 25 (f := .glo "sine") rfl)
  obtain ⟨fd_root_below, F_root_below⟩ := c.d.def_ 7 (d := d_root_below) rfl
  have g_root_below : mg "root_below" = some (.ref _) := He.glo_ok X N (c.d.fact 26 (f := .glo "root_below") rfl)
  obtain ⟨fd_sign_in, F_sign_in⟩ := c.d.def_ 8 (d := d_sign_in) rfl
  have g_sign_in : mg "sign_in" = some (.ref _) := He.glo_ok X N (c.d.fact 27 (f := .glo "sign_in") rfl)
  obtain ⟨fd_whole_in, F_whole_in⟩ := c.d.def_ 9 (d := d_whole_in) rfl
  have g_whole_in : mg "whole_in" = some (.ref _) := He.glo_ok X N (c.d.fact 28 (f := .glo "whole_in") rfl)
  obtain ⟨fd_behind_in, F_behind_in⟩ := c.d.def_ 10 (d := d_behind_in) rfl
  have g_behind_in : mg "behind_in" = some (.ref _) := He.glo_ok X N (c.d.fact 29 (f := .glo "behind_in") rfl)
  obtain ⟨fd_along_in, F_along_in⟩ := c.d.def_ 11 (d := d_along_in) rfl
  have g_along_in : mg "along_in" = some (.ref _) := He.glo_ok X N (c.d.fact 30 (f := .glo "along_in") rfl)
  obtain ⟨fd_fits_eighths, F_fits_eighths⟩ := c.d.def_ 12 (d := d_fits_eighths) rfl
  have g_fits_eighths : mg "fits_eighths" = some (.ref _) := He.glo_ok X N (c.d.fact 31 (f := .glo "fits_eighths") rfl)
  obtain ⟨fd_need_eighths, F_need_eighths⟩ := c.d.def_ 13 (d := d_need_eighths) rfl
  have g_need_eighths : mg "need_eighths" = some (.ref _) := He.glo_ok X N (c.d.fact 32 (f := .glo "need_eighths") rfl)
  obtain ⟨fd_fits_number, F_fits_number⟩ := c.d.def_ 14 (d := d_fits_number) rfl
  have g_fits_number : mg "fits_number" = some (.ref _) := He.glo_ok X N (c.d.fact 33 (f := .glo "fits_number") rfl)
  obtain ⟨fd_need_number, F_need_number⟩ := c.d.def_ 15 (d := d_need_number) rfl
  have g_need_number : mg "need_number" = some (.ref _) := He.glo_ok X N (c.d.fact 34 (f := .glo "need_number") rfl)
  obtain ⟨fd_least_in, F_least_in⟩ := c.d.def_ 16 (d := d_least_in) rfl
  have g_least_in : mg "least_in" = some (.ref _) := He.glo_ok X N (c.d.fact 35 (f := .glo "least_in") rfl)
  obtain ⟨fd_greatest_in, F_greatest_in⟩ := c.d.def_ 17 (d := d_greatest_in) rfl
  have g_greatest_in : mg "greatest_in" = some (.ref _) := He.glo_ok X N (c.d.fact 36 (f := .glo "greatest_in") rfl)
  obtain ⟨fd_square_in, F_square_in⟩ := c.d.def_ 18 (d := d_square_in) rfl
  have g_square_in : mg "square_in" = some (.ref _) := He.glo_ok X N (c.d.fact 37 (f := .glo "square_in") rfl)
  obtain ⟨fd_sign_of, F_sign_of⟩ := c.d.def_ 19 (d := d_sign_of) rfl
  have g_sign_of : mg "sign_of" = some (.ref _) := He.glo_ok X N (c.d.fact 38 (f := .glo "sign_of") rfl)
  obtain ⟨fd_whole_of, F_whole_of⟩ := c.d.def_ 20 (d := d_whole_of) rfl
  have g_whole_of : mg "whole_of" = some (.ref _) := He.glo_ok X N (c.d.fact 39 (f := .glo "whole_of") rfl)
  obtain ⟨fd_is_less, F_is_less⟩ := c.d.def_ 21 (d := d_is_less) rfl
  have g_is_less : mg "is_less" = some (.ref _) := He.glo_ok X N (c.d.fact 40 (f := .glo "is_less") rfl)
  obtain ⟨fd_product, F_product⟩ := c.d.def_ 22 (d := d_product) rfl
  have g_product : mg "product" = some (.ref _) := He.glo_ok X N (c.d.fact 41 (f := .glo "product") rfl)
  obtain ⟨fd_box_by_eighths, F_box_by_eighths⟩ := c.d.def_ 23 (d := d_box_by_eighths) rfl
  have g_box_by_eighths : mg "box_by_eighths" = some (.ref _) := He.glo_ok X N (c.d.fact 42 (f := .glo "box_by_eighths") rfl)
  obtain ⟨fd_far_squared, F_far_squared⟩ := c.d.def_ 24 (d := d_far_squared) rfl
  have g_far_squared : mg "far_squared" = some (.ref _) := He.glo_ok X N (c.d.fact 43 (f := .glo "far_squared") rfl)
  obtain ⟨fd_farthest_place, F_farthest_place⟩ := c.d.def_ 25 (d := d_farthest_place) rfl
  have g_farthest_place : mg "farthest_place" = some (.ref _) := He.glo_ok X N (c.d.fact 44 (f := .glo "farthest_place") rfl)
  obtain ⟨fd_cell_of, F_cell_of⟩ := c.d.def_ 26 (d := d_cell_of) rfl
  have g_cell_of : mg "cell_of" = some (.ref _) := He.glo_ok X N (c.d.fact 45 (f := .glo "cell_of") rfl)
  obtain ⟨fd_law_cup, F_law_cup⟩ := c.d.def_ 27 (d := d_law_cup) rfl
  have g_law_cup : mg "_law_cup" = some (.ref _) := He.glo_ok X N (c.d.fact 46 (f := .glo "_law_cup") rfl)
  obtain ⟨fd_law_roll, F_law_roll⟩ := c.d.def_ 28 (d := d_law_roll) rfl
  have g_law_roll : mg "_law_roll" = some (.ref _) := He.glo_ok X N (c.d.fact 47 (f := .glo "_law_roll") rfl)
  obtain ⟨fd_law_some, F_law_some⟩ := c.d.def_ 29 (d := d_law_some) rfl
  have g_law_some : mg "_law_some" = some (.ref _) := He.glo_ok X N (c.d.fact 48 (f := .glo "_law_some") rfl)
  obtain ⟨fd_law_same, F_law_same⟩ := c.d.def_ 30 (d := d_law_same) rfl
  have g_law_same : mg "_law_same" = some (.ref _) := He.glo_ok X N (c.d.fact 49 (f := .glo "_law_same") rfl)
  obtain ⟨fd_law_word, F_law_word⟩ := c.d.def_ 31 (d := d_law_word) rfl
  have g_law_word : mg "_law_word" = some (.ref _) := He.glo_ok X N (c.d.fact 50 (f := .glo "_law_word") rfl)
  obtain ⟨fd_law_times, F_law_times⟩ := c.d.def_ 32 (d := d_law_times) rfl
  have g_law_times : mg "_law_times" = some (.ref _) := He.glo_ok X N (c.d.fact 51 (f := .glo "_law_times") rfl)
  obtain ⟨fd_law_add, F_law_add⟩ := c.d.def_ 33 (d := d_law_add) rfl
  have g_law_add : mg "_law_add" = some (.ref _) := He.glo_ok X N (c.d.fact 52 (f := .glo "_law_add") rfl)
  obtain ⟨fd_law_step, F_law_step⟩ := c.d.def_ 34 (d := d_law_step) rfl
  have g_law_step : mg "_law_step" = some (.ref _) := He.glo_ok X N (c.d.fact 53 (f := .glo "_law_step") rfl)
  obtain ⟨fd_law_told_of, F_law_told_of⟩ := c.d.def_ 35 (d := d_law_told_of) rfl
  have g_law_told_of : mg "_law_told_of" = some (.ref _) := He.glo_ok X N (c.d.fact 54 (f := .glo "_law_told_of") rfl)
  obtain ⟨fd_law_trail, F_law_trail⟩ := c.d.def_ 36 (d := d_law_trail) rfl
  have g_law_trail : mg "_law_trail" = some (.ref _) := He.glo_ok X N (c.d.fact 55 (f := .glo "_law_trail") rfl)
  obtain ⟨fd_law_root, F_law_root⟩ := c.d.def_ 37 (d := d_law_root) rfl
  have g_law_root : mg "_law_root" = some (.ref _) := He.glo_ok X N (c.d.fact 56 (f := .glo "_law_root") rfl)
  obtain ⟨fd_law_sign, F_law_sign⟩ := c.d.def_ 38 (d := d_law_sign) rfl
  have g_law_sign : mg "_law_sign" = some (.ref _) := He.glo_ok X N (c.d.fact 57 (f := .glo "_law_sign") rfl)
  obtain ⟨fd_law_less, F_law_less⟩ := c.d.def_ 39 (d := d_law_less) rfl
  have g_law_less : mg "_law_less" = some (.ref _) := He.glo_ok X N (c.d.fact 58 (f := .glo "_law_less") rfl)
  obtain ⟨fd_law_number, F_law_number⟩ := c.d.def_ 40 (d := d_law_number) rfl
  have g_law_number : mg "_law_number" = some (.ref _) := He.glo_ok X N (c.d.fact 59 (f := .glo "_law_number") rfl)
  obtain ⟨fd_law, F_law⟩ := c.d.def_ 41 (d := d_law) rfl
  have g_law : mg "law" = some (.ref _) := He.glo_ok X N (c.d.fact 60 (f := .glo "law") rfl)
  have e := hfa.symm.trans g_law
  cases e
  have b := FunD.bindsA (ps := ["script"]) F_law fun _ _ _ _ _ _ us hl => match us, hl with | [_], _ => rfl
  refine ⟨fd_law, fun s v => b s [v] rfl, fun base _ _ => ?_⟩
  have h_is_whole : Fd P w K mg base "is_whole" 1 m_is_whole := ok_is_whole z F_is_whole g_is_whole
  have h_fits_whole : Fd P w K mg base "fits_whole" 2 m_fits_whole := ok_fits_whole z h_is_whole F_fits_whole g_fits_whole
  have h_is_tuple_of : Fd P w K mg base "is_tuple_of" 1 m_is_tuple_of := ok_is_tuple_of z F_is_tuple_of g_is_tuple_of
  have h_plus : Fd P w K mg base "plus" 1 m_plus := ok_plus z F_plus g_plus
  have h_minus : Fd P w K mg base "minus" 1 m_minus := ok_minus z F_minus g_minus
  have h_cosine : Fd P w K mg base "cosine" 1 m_cosine := ok_cosine z cCOSINES F_cosine g_cosine
  have h_sine : Fd P w K mg base "sine" 1 m_sine := ok_sine z cCOSINES F_sine g_sine
  have h_root_below : Fd P w K mg base "root_below" 1 m_root_below := ok_root_below z F_root_below g_root_below
  have h_sign_in : Fd P w K mg base "sign_in" 1 m_sign_in := ok_sign_in z F_sign_in g_sign_in
  have h_whole_in : Fd P w K mg base "whole_in" 2 m_whole_in := ok_whole_in z h_root_below F_whole_in g_whole_in
  have h_behind_in : Fd P w K mg base "behind_in" 2 m_behind_in := ok_behind_in z h_plus h_sine h_cosine h_minus F_behind_in g_behind_in
  have h_along_in : Fd P w K mg base "along_in" 3 m_along_in := ok_along_in z h_behind_in F_along_in g_along_in
  have h_fits_eighths : Fd P w K mg base "fits_eighths" 1 m_fits_eighths := ok_fits_eighths z cLONG cPIECES F_fits_eighths g_fits_eighths
  have h_need_eighths : Fd P w K mg base "need_eighths" 2 m_need_eighths := ok_need_eighths z h_fits_eighths F_need_eighths g_need_eighths
  have h_fits_number : Fd P w K mg base "fits_number" 3 m_fits_number := ok_fits_number z cGREAT h_is_tuple_of h_fits_whole F_fits_number g_fits_number
  have h_need_number : Fd P w K mg base "need_number" 4 m_need_number := ok_need_number z h_fits_number F_need_number g_need_number
  have h_least_in : Fd P w K mg base "least_in" 2 m_least_in := ok_least_in z h_sign_in h_minus F_least_in g_least_in
  have h_greatest_in : Fd P w K mg base "greatest_in" 2 m_greatest_in := ok_greatest_in z h_sign_in h_minus F_greatest_in g_greatest_in
  have h_square_in : Fd P w K mg base "square_in" 1 m_square_in := ok_square_in z F_square_in g_square_in
  have h_sign_of : Fd P w K mg base "sign_of" 5 m_sign_of := ok_sign_of z h_need_number h_sign_in F_sign_of g_sign_of
  have h_whole_of : Fd P w K mg base "whole_of" 5 m_whole_of := ok_whole_of z h_need_number h_whole_in F_whole_of g_whole_of
  have h_is_less : Fd P w K mg base "is_less" 5 m_is_less := ok_is_less z h_need_number h_sign_in h_minus F_is_less g_is_less
  have h_product : Fd P w K mg base "product" 5 m_product := ok_product z h_need_number F_product g_product
  have h_box_by_eighths : Fd P w K mg base "box_by_eighths" 4 m_box_by_eighths := ok_box_by_eighths z h_need_eighths h_along_in h_greatest_in h_least_in F_box_by_eighths g_box_by_eighths
  have h_far_squared : Fd P w K mg base "far_squared" 4 m_far_squared := ok_far_squared z h_need_eighths h_square_in h_along_in F_far_squared g_far_squared
  have h_farthest_place : Fd P w K mg base "farthest_place" 4 m_farthest_place := ok_farthest_place z h_need_eighths h_along_in h_square_in h_greatest_in F_farthest_place g_farthest_place
  have h_cell_of : Fd P w K mg base "cell_of" 4 m_cell_of := ok_cell_of z h_need_eighths h_along_in h_whole_in F_cell_of g_cell_of
  have h_law_cup : Fd P w K mg base "_law_cup" 1 m_law_cup := ok_law_cup z F_law_cup g_law_cup
  have h_law_roll : Fd P w K mg base "_law_roll" 1 m_law_roll := ok_law_roll z F_law_roll g_law_roll
  have h_law_some : Fd P w K mg base "_law_some" 2 m_law_some := ok_law_some z h_law_roll F_law_some g_law_some
  have h_law_same : Fd P w K mg base "_law_same" 13 m_law_same := ok_law_same z F_law_same g_law_same
  have h_law_word : Fd P w K mg base "_law_word" 3 m_law_word := ok_law_word z h_law_roll h_law_some F_law_word g_law_word
  have h_law_times : Fd P w K mg base "_law_times" 1 m_law_times := ok_law_times z F_law_times g_law_times
  have h_law_add : Fd P w K mg base "_law_add" 1 m_law_add := ok_law_add z F_law_add g_law_add
  have h_law_step : Fd P w K mg base "_law_step" 2 m_law_step := ok_law_step z h_law_add h_law_times F_law_step g_law_step
  have h_law_told_of : Fd P w K mg base "_law_told_of" 1 m_law_told_of := ok_law_told_of z F_law_told_of g_law_told_of
  have h_law_trail : Fd P w K mg base "_law_trail" 3 m_law_trail := ok_law_trail z h_law_step F_law_trail g_law_trail
  have h_law_root : Fd P w K mg base "_law_root" 1 m_law_root := ok_law_root z F_law_root g_law_root
  have h_law_sign : Fd P w K mg base "_law_sign" 2 m_law_sign := ok_law_sign z h_law_root F_law_sign g_law_sign
  have h_law_less : Fd P w K mg base "_law_less" 3 m_law_less := ok_law_less z h_law_sign F_law_less g_law_less
  have h_law_number : Fd P w K mg base "_law_number" 3 m_law_number := ok_law_number z h_law_some h_law_roll h_law_root F_law_number g_law_number
  exact okL_law z h_law_cup h_law_number h_law_same h_law_less h_law_sign h_is_less h_sign_of h_whole_of h_product h_law_word h_law_some h_law_trail h_law_told_of h_box_by_eighths h_farthest_place h_far_squared h_cell_of F_law
end L37
set_option Elab.async false
set_option linter.all false
set_option maxRecDepth 100000
set_option maxHeartbeats 2000000
namespace L37
open G
variable {P : D → Prop}
theorem q_ne_bb {a b : Bool} {Q : D → Prop} : dNe (.bl a) (.bl b) Q = Q (.bl (!(a == b))) := propext ⟨fun h => h.2, fun h => ⟨⟨okD_bl, okD_bl⟩, h⟩⟩
theorem eq_nil_f {Q : D → Prop} (h : Q (.bl true)) : dEq (.lst []) (.lst []) Q := ⟨⟨rfl, rfl⟩, h⟩
theorem sp_law_same_k : ∀ (k : Nat) (d : D) (P : D → Prop), smD k d = true → P (.bl true) → mf_law_same (k + 1) [d, d] P := by
  intro k
  induction k with
  | zero =>
    intro d P hd h
    cases d with
    | non => simp (decide := true) only [mf_law_same, S_law_same, n_eVar, n_eVarB, varQ_fz, varB_fz, varB_ow, n_eC, n_eCall, n_aCons, n_aNil, n_eBin, n_eUn, n_eTup, n_eLst, n_eIf, n_eAnd, n_eOr, n_eNot, n_eChain, n_tVal, n_tNot, n_tAnd, n_tOr, n_tTrue,
 n_sSeq, n_sIf, n_sNil, n_sRet, n_sExpr, n_sBreak, n_sCont, n_sSet, n_sSetO, n_sSetZ, n_sFrz, n_sFor, n_gN, pq2_e, n_sPar, n_sParFG, n_sParGF, n_sParFF, n_sP3, n_sP4, n_eTupR, n_eLstR, n_eRevT, q_revT, n_sAsg, n_gTn_t, n_gTn_k, n_gsCons, n_gsNil, n_eLC, n_iSeq, n_seq_s, n_seq_l, n_seq_t, n_seq_k,
 rq1_e, rq2_e, n_iRng1m, n_iRng2m, n_eSl, n_oNone, n_oSome, n_eMeth, n_eRev, apQ_e, n_sAppend, n_sAug, n_fnM, n_ret, n_ask, n_dTuple, cif_t, cif_f, isB_bl, isI_int, optP_s, hasT,
 getS, setS, frzS, startE, slK, wipeE, put0, put1, put2, put3, q_add_i, q_add_s, q_add_t, q_add_l, q_sub, q_mul_i, q_mul_s, q_mod, q_neg, q_lt, q_le, q_gt, q_ge, q_eq_i, q_ne_i, q_eq_s, q_ne_s, q_is_bb, q_is_bn, q_is_in, q_is_sn, q_is_tn, q_is_nn, q_isn_bb, q_isn_bn, q_isn_in, q_isn_sn, q_isn_tn, q_isn_nn,
 q_it_l, q_it_t, q_it_k, q_it_s, at0, at1, at2, at3, atm1_1, atm1_2, atm1_a, q_len_s, q_len_l, q_len_t, q_isi, q_int, q_str, ty_int, ty_str, ty_bl, ty_lst, ty_tup, ty_kt, ty_non, isiT, q_sl_s, q_sl_t, q_sl_l,
 n_iZipU, n_iEnU, eqU_l, zqU_ll, zqU_lt, zqU_ls, eqU_t, zqU_tl, zqU_tt, zqU_ts, eqU_s, zqU_sl, zqU_st, zqU_ss, eqU_k,
 List.map_cons, List.map_nil, List.length_cons, List.length_nil, List.cons_append, List.nil_append, List.append_nil, List.replicate_zero, List.replicate_succ, Nat.reduceAdd, Nat.reduceSub, Nat.reduceEqDiff, Nat.reduceLeDiff, Int.reduceAdd, Int.reduceSub, Int.reduceMul, Int.reduceMod, Int.reduceNeg, Int.reduceLT, Int.reduceLE, Int.reduceBEq, decide_true, decide_false, Bool.not_true, Bool.not_false, true_and, and_true, Nat.zero_add]; exact h
    | bl b => cases b <;> (simp (decide := true) only [mf_law_same, S_law_same, n_eVar, n_eVarB, varQ_fz, varB_fz, varB_ow, n_eC, n_eCall, n_aCons, n_aNil, n_eBin, n_eUn, n_eTup, n_eLst, n_eIf, n_eAnd, n_eOr, n_eNot, n_eChain, n_tVal, n_tNot, n_tAnd, n_tOr, n_tTrue,
 n_sSeq, n_sIf, n_sNil, n_sRet, n_sExpr, n_sBreak, n_sCont, n_sSet, n_sSetO, n_sSetZ, n_sFrz, n_sFor, n_gN, pq2_e, n_sPar, n_sParFG, n_sParGF, n_sParFF, n_sP3, n_sP4, n_eTupR, n_eLstR, n_eRevT, q_revT, n_sAsg, n_gTn_t, n_gTn_k, n_gsCons, n_gsNil, n_eLC, n_iSeq, n_seq_s, n_seq_l, n_seq_t, n_seq_k,
 rq1_e, rq2_e, n_iRng1m, n_iRng2m, n_eSl, n_oNone, n_oSome, n_eMeth, n_eRev, apQ_e, n_sAppend, n_sAug, n_fnM, n_ret, n_ask, n_dTuple, cif_t, cif_f, isB_bl, isI_int, optP_s, hasT,
 getS, setS, frzS, startE, slK, wipeE, put0, put1, put2, put3, q_add_i, q_add_s, q_add_t, q_add_l, q_sub, q_mul_i, q_mul_s, q_mod, q_neg, q_lt, q_le, q_gt, q_ge, q_eq_i, q_ne_i, q_eq_s, q_ne_s, q_is_bb, q_is_bn, q_is_in, q_is_sn, q_is_tn, q_is_nn, q_isn_bb, q_isn_bn, q_isn_in, q_isn_sn, q_isn_tn, q_isn_nn,
 q_it_l, q_it_t, q_it_k, q_it_s, at0, at1, at2, at3, atm1_1, atm1_2, atm1_a, q_len_s, q_len_l, q_len_t, q_isi, q_int, q_str, ty_int, ty_str, ty_bl, ty_lst, ty_tup, ty_kt, ty_non, isiT, q_sl_s, q_sl_t, q_sl_l,
 n_iZipU, n_iEnU, eqU_l, zqU_ll, zqU_lt, zqU_ls, eqU_t, zqU_tl, zqU_tt, zqU_ts, eqU_s, zqU_sl, zqU_st, zqU_ss, eqU_k,
 List.map_cons, List.map_nil, List.length_cons, List.length_nil, List.cons_append, List.nil_append, List.append_nil, List.replicate_zero, List.replicate_succ, Nat.reduceAdd, Nat.reduceSub, Nat.reduceEqDiff, Nat.reduceLeDiff, Int.reduceAdd, Int.reduceSub, Int.reduceMul, Int.reduceMod, Int.reduceNeg, Int.reduceLT, Int.reduceLE, Int.reduceBEq, decide_true, decide_false, Bool.not_true, Bool.not_false, true_and, and_true, Nat.zero_add]; exact h)
    | int i => simp (decide := true) only [mf_law_same, S_law_same, n_eVar, n_eVarB, varQ_fz, varB_fz, varB_ow, n_eC, n_eCall, n_aCons, n_aNil, n_eBin, n_eUn, n_eTup, n_eLst, n_eIf, n_eAnd, n_eOr, n_eNot, n_eChain, n_tVal, n_tNot, n_tAnd, n_tOr, n_tTrue,
 n_sSeq, n_sIf, n_sNil, n_sRet, n_sExpr, n_sBreak, n_sCont, n_sSet, n_sSetO, n_sSetZ, n_sFrz, n_sFor, n_gN, pq2_e, n_sPar, n_sParFG, n_sParGF, n_sParFF, n_sP3, n_sP4, n_eTupR, n_eLstR, n_eRevT, q_revT, n_sAsg, n_gTn_t, n_gTn_k, n_gsCons, n_gsNil, n_eLC, n_iSeq, n_seq_s, n_seq_l, n_seq_t, n_seq_k,
 rq1_e, rq2_e, n_iRng1m, n_iRng2m, n_eSl, n_oNone, n_oSome, n_eMeth, n_eRev, apQ_e, n_sAppend, n_sAug, n_fnM, n_ret, n_ask, n_dTuple, cif_t, cif_f, isB_bl, isI_int, optP_s, hasT,
 getS, setS, frzS, startE, slK, wipeE, put0, put1, put2, put3, q_add_i, q_add_s, q_add_t, q_add_l, q_sub, q_mul_i, q_mul_s, q_mod, q_neg, q_lt, q_le, q_gt, q_ge, q_eq_i, q_ne_i, q_eq_s, q_ne_s, q_is_bb, q_is_bn, q_is_in, q_is_sn, q_is_tn, q_is_nn, q_isn_bb, q_isn_bn, q_isn_in, q_isn_sn, q_isn_tn, q_isn_nn,
 q_it_l, q_it_t, q_it_k, q_it_s, at0, at1, at2, at3, atm1_1, atm1_2, atm1_a, q_len_s, q_len_l, q_len_t, q_isi, q_int, q_str, ty_int, ty_str, ty_bl, ty_lst, ty_tup, ty_kt, ty_non, isiT, q_sl_s, q_sl_t, q_sl_l,
 n_iZipU, n_iEnU, eqU_l, zqU_ll, zqU_lt, zqU_ls, eqU_t, zqU_tl, zqU_tt, zqU_ts, eqU_s, zqU_sl, zqU_st, zqU_ss, eqU_k,
 List.map_cons, List.map_nil, List.length_cons, List.length_nil, List.cons_append, List.nil_append, List.append_nil, List.replicate_zero, List.replicate_succ, Nat.reduceAdd, Nat.reduceSub, Nat.reduceEqDiff, Nat.reduceLeDiff, Int.reduceAdd, Int.reduceSub, Int.reduceMul, Int.reduceMod, Int.reduceNeg, Int.reduceLT, Int.reduceLE, Int.reduceBEq, decide_true, decide_false, Bool.not_true, Bool.not_false, true_and, and_true, Nat.zero_add]; simpa using h
    | str i => simp (decide := true) only [mf_law_same, S_law_same, n_eVar, n_eVarB, varQ_fz, varB_fz, varB_ow, n_eC, n_eCall, n_aCons, n_aNil, n_eBin, n_eUn, n_eTup, n_eLst, n_eIf, n_eAnd, n_eOr, n_eNot, n_eChain, n_tVal, n_tNot, n_tAnd, n_tOr, n_tTrue,
 n_sSeq, n_sIf, n_sNil, n_sRet, n_sExpr, n_sBreak, n_sCont, n_sSet, n_sSetO, n_sSetZ, n_sFrz, n_sFor, n_gN, pq2_e, n_sPar, n_sParFG, n_sParGF, n_sParFF, n_sP3, n_sP4, n_eTupR, n_eLstR, n_eRevT, q_revT, n_sAsg, n_gTn_t, n_gTn_k, n_gsCons, n_gsNil, n_eLC, n_iSeq, n_seq_s, n_seq_l, n_seq_t, n_seq_k,
 rq1_e, rq2_e, n_iRng1m, n_iRng2m, n_eSl, n_oNone, n_oSome, n_eMeth, n_eRev, apQ_e, n_sAppend, n_sAug, n_fnM, n_ret, n_ask, n_dTuple, cif_t, cif_f, isB_bl, isI_int, optP_s, hasT,
 getS, setS, frzS, startE, slK, wipeE, put0, put1, put2, put3, q_add_i, q_add_s, q_add_t, q_add_l, q_sub, q_mul_i, q_mul_s, q_mod, q_neg, q_lt, q_le, q_gt, q_ge, q_eq_i, q_ne_i, q_eq_s, q_ne_s, q_is_bb, q_is_bn, q_is_in, q_is_sn, q_is_tn, q_is_nn, q_isn_bb, q_isn_bn, q_isn_in, q_isn_sn, q_isn_tn, q_isn_nn,
 q_it_l, q_it_t, q_it_k, q_it_s, at0, at1, at2, at3, atm1_1, atm1_2, atm1_a, q_len_s, q_len_l, q_len_t, q_isi, q_int, q_str, ty_int, ty_str, ty_bl, ty_lst, ty_tup, ty_kt, ty_non, isiT, q_sl_s, q_sl_t, q_sl_l,
 n_iZipU, n_iEnU, eqU_l, zqU_ll, zqU_lt, zqU_ls, eqU_t, zqU_tl, zqU_tt, zqU_ts, eqU_s, zqU_sl, zqU_st, zqU_ss, eqU_k,
 List.map_cons, List.map_nil, List.length_cons, List.length_nil, List.cons_append, List.nil_append, List.append_nil, List.replicate_zero, List.replicate_succ, Nat.reduceAdd, Nat.reduceSub, Nat.reduceEqDiff, Nat.reduceLeDiff, Int.reduceAdd, Int.reduceSub, Int.reduceMul, Int.reduceMod, Int.reduceNeg, Int.reduceLT, Int.reduceLE, Int.reduceBEq, decide_true, decide_false, Bool.not_true, Bool.not_false, true_and, and_true, Nat.zero_add]; simpa using h
    | _ => cases hd
  | succ k ih =>
    intro d P hd h
    cases d with
    | non => simp (decide := true) only [mf_law_same, S_law_same, n_eVar, n_eVarB, varQ_fz, varB_fz, varB_ow, n_eC, n_eCall, n_aCons, n_aNil, n_eBin, n_eUn, n_eTup, n_eLst, n_eIf, n_eAnd, n_eOr, n_eNot, n_eChain, n_tVal, n_tNot, n_tAnd, n_tOr, n_tTrue,
 n_sSeq, n_sIf, n_sNil, n_sRet, n_sExpr, n_sBreak, n_sCont, n_sSet, n_sSetO, n_sSetZ, n_sFrz, n_sFor, n_gN, pq2_e, n_sPar, n_sParFG, n_sParGF, n_sParFF, n_sP3, n_sP4, n_eTupR, n_eLstR, n_eRevT, q_revT, n_sAsg, n_gTn_t, n_gTn_k, n_gsCons, n_gsNil, n_eLC, n_iSeq, n_seq_s, n_seq_l, n_seq_t, n_seq_k,
 rq1_e, rq2_e, n_iRng1m, n_iRng2m, n_eSl, n_oNone, n_oSome, n_eMeth, n_eRev, apQ_e, n_sAppend, n_sAug, n_fnM, n_ret, n_ask, n_dTuple, cif_t, cif_f, isB_bl, isI_int, optP_s, hasT,
 getS, setS, frzS, startE, slK, wipeE, put0, put1, put2, put3, q_add_i, q_add_s, q_add_t, q_add_l, q_sub, q_mul_i, q_mul_s, q_mod, q_neg, q_lt, q_le, q_gt, q_ge, q_eq_i, q_ne_i, q_eq_s, q_ne_s, q_is_bb, q_is_bn, q_is_in, q_is_sn, q_is_tn, q_is_nn, q_isn_bb, q_isn_bn, q_isn_in, q_isn_sn, q_isn_tn, q_isn_nn,
 q_it_l, q_it_t, q_it_k, q_it_s, at0, at1, at2, at3, atm1_1, atm1_2, atm1_a, q_len_s, q_len_l, q_len_t, q_isi, q_int, q_str, ty_int, ty_str, ty_bl, ty_lst, ty_tup, ty_kt, ty_non, isiT, q_sl_s, q_sl_t, q_sl_l,
 n_iZipU, n_iEnU, eqU_l, zqU_ll, zqU_lt, zqU_ls, eqU_t, zqU_tl, zqU_tt, zqU_ts, eqU_s, zqU_sl, zqU_st, zqU_ss, eqU_k,
 List.map_cons, List.map_nil, List.length_cons, List.length_nil, List.cons_append, List.nil_append, List.append_nil, List.replicate_zero, List.replicate_succ, Nat.reduceAdd, Nat.reduceSub, Nat.reduceEqDiff, Nat.reduceLeDiff, Int.reduceAdd, Int.reduceSub, Int.reduceMul, Int.reduceMod, Int.reduceNeg, Int.reduceLT, Int.reduceLE, Int.reduceBEq, decide_true, decide_false, Bool.not_true, Bool.not_false, true_and, and_true, Nat.zero_add]; exact h
    | bl b => cases b <;> (simp (decide := true) only [mf_law_same, S_law_same, n_eVar, n_eVarB, varQ_fz, varB_fz, varB_ow, n_eC, n_eCall, n_aCons, n_aNil, n_eBin, n_eUn, n_eTup, n_eLst, n_eIf, n_eAnd, n_eOr, n_eNot, n_eChain, n_tVal, n_tNot, n_tAnd, n_tOr, n_tTrue,
 n_sSeq, n_sIf, n_sNil, n_sRet, n_sExpr, n_sBreak, n_sCont, n_sSet, n_sSetO, n_sSetZ, n_sFrz, n_sFor, n_gN, pq2_e, n_sPar, n_sParFG, n_sParGF, n_sParFF, n_sP3, n_sP4, n_eTupR, n_eLstR, n_eRevT, q_revT, n_sAsg, n_gTn_t, n_gTn_k, n_gsCons, n_gsNil, n_eLC, n_iSeq, n_seq_s, n_seq_l, n_seq_t, n_seq_k,
 rq1_e, rq2_e, n_iRng1m, n_iRng2m, n_eSl, n_oNone, n_oSome, n_eMeth, n_eRev, apQ_e, n_sAppend, n_sAug, n_fnM, n_ret, n_ask, n_dTuple, cif_t, cif_f, isB_bl, isI_int, optP_s, hasT,
 getS, setS, frzS, startE, slK, wipeE, put0, put1, put2, put3, q_add_i, q_add_s, q_add_t, q_add_l, q_sub, q_mul_i, q_mul_s, q_mod, q_neg, q_lt, q_le, q_gt, q_ge, q_eq_i, q_ne_i, q_eq_s, q_ne_s, q_is_bb, q_is_bn, q_is_in, q_is_sn, q_is_tn, q_is_nn, q_isn_bb, q_isn_bn, q_isn_in, q_isn_sn, q_isn_tn, q_isn_nn,
 q_it_l, q_it_t, q_it_k, q_it_s, at0, at1, at2, at3, atm1_1, atm1_2, atm1_a, q_len_s, q_len_l, q_len_t, q_isi, q_int, q_str, ty_int, ty_str, ty_bl, ty_lst, ty_tup, ty_kt, ty_non, isiT, q_sl_s, q_sl_t, q_sl_l,
 n_iZipU, n_iEnU, eqU_l, zqU_ll, zqU_lt, zqU_ls, eqU_t, zqU_tl, zqU_tt, zqU_ts, eqU_s, zqU_sl, zqU_st, zqU_ss, eqU_k,
 List.map_cons, List.map_nil, List.length_cons, List.length_nil, List.cons_append, List.nil_append, List.append_nil, List.replicate_zero, List.replicate_succ, Nat.reduceAdd, Nat.reduceSub, Nat.reduceEqDiff, Nat.reduceLeDiff, Int.reduceAdd, Int.reduceSub, Int.reduceMul, Int.reduceMod, Int.reduceNeg, Int.reduceLT, Int.reduceLE, Int.reduceBEq, decide_true, decide_false, Bool.not_true, Bool.not_false, true_and, and_true, Nat.zero_add]; exact h)
    | int i => simp (decide := true) only [mf_law_same, S_law_same, n_eVar, n_eVarB, varQ_fz, varB_fz, varB_ow, n_eC, n_eCall, n_aCons, n_aNil, n_eBin, n_eUn, n_eTup, n_eLst, n_eIf, n_eAnd, n_eOr, n_eNot, n_eChain, n_tVal, n_tNot, n_tAnd, n_tOr, n_tTrue,
 n_sSeq, n_sIf, n_sNil, n_sRet, n_sExpr, n_sBreak, n_sCont, n_sSet, n_sSetO, n_sSetZ, n_sFrz, n_sFor, n_gN, pq2_e, n_sPar, n_sParFG, n_sParGF, n_sParFF, n_sP3, n_sP4, n_eTupR, n_eLstR, n_eRevT, q_revT, n_sAsg, n_gTn_t, n_gTn_k, n_gsCons, n_gsNil, n_eLC, n_iSeq, n_seq_s, n_seq_l, n_seq_t, n_seq_k,
 rq1_e, rq2_e, n_iRng1m, n_iRng2m, n_eSl, n_oNone, n_oSome, n_eMeth, n_eRev, apQ_e, n_sAppend, n_sAug, n_fnM, n_ret, n_ask, n_dTuple, cif_t, cif_f, isB_bl, isI_int, optP_s, hasT,
 getS, setS, frzS, startE, slK, wipeE, put0, put1, put2, put3, q_add_i, q_add_s, q_add_t, q_add_l, q_sub, q_mul_i, q_mul_s, q_mod, q_neg, q_lt, q_le, q_gt, q_ge, q_eq_i, q_ne_i, q_eq_s, q_ne_s, q_is_bb, q_is_bn, q_is_in, q_is_sn, q_is_tn, q_is_nn, q_isn_bb, q_isn_bn, q_isn_in, q_isn_sn, q_isn_tn, q_isn_nn,
 q_it_l, q_it_t, q_it_k, q_it_s, at0, at1, at2, at3, atm1_1, atm1_2, atm1_a, q_len_s, q_len_l, q_len_t, q_isi, q_int, q_str, ty_int, ty_str, ty_bl, ty_lst, ty_tup, ty_kt, ty_non, isiT, q_sl_s, q_sl_t, q_sl_l,
 n_iZipU, n_iEnU, eqU_l, zqU_ll, zqU_lt, zqU_ls, eqU_t, zqU_tl, zqU_tt, zqU_ts, eqU_s, zqU_sl, zqU_st, zqU_ss, eqU_k,
 List.map_cons, List.map_nil, List.length_cons, List.length_nil, List.cons_append, List.nil_append, List.append_nil, List.replicate_zero, List.replicate_succ, Nat.reduceAdd, Nat.reduceSub, Nat.reduceEqDiff, Nat.reduceLeDiff, Int.reduceAdd, Int.reduceSub, Int.reduceMul, Int.reduceMod, Int.reduceNeg, Int.reduceLT, Int.reduceLE, Int.reduceBEq, decide_true, decide_false, Bool.not_true, Bool.not_false, true_and, and_true, Nat.zero_add]; simpa using h
    | str i => simp (decide := true) only [mf_law_same, S_law_same, n_eVar, n_eVarB, varQ_fz, varB_fz, varB_ow, n_eC, n_eCall, n_aCons, n_aNil, n_eBin, n_eUn, n_eTup, n_eLst, n_eIf, n_eAnd, n_eOr, n_eNot, n_eChain, n_tVal, n_tNot, n_tAnd, n_tOr, n_tTrue,
 n_sSeq, n_sIf, n_sNil, n_sRet, n_sExpr, n_sBreak, n_sCont, n_sSet, n_sSetO, n_sSetZ, n_sFrz, n_sFor, n_gN, pq2_e, n_sPar, n_sParFG, n_sParGF, n_sParFF, n_sP3, n_sP4, n_eTupR, n_eLstR, n_eRevT, q_revT, n_sAsg, n_gTn_t, n_gTn_k, n_gsCons, n_gsNil, n_eLC, n_iSeq, n_seq_s, n_seq_l, n_seq_t, n_seq_k,
 rq1_e, rq2_e, n_iRng1m, n_iRng2m, n_eSl, n_oNone, n_oSome, n_eMeth, n_eRev, apQ_e, n_sAppend, n_sAug, n_fnM, n_ret, n_ask, n_dTuple, cif_t, cif_f, isB_bl, isI_int, optP_s, hasT,
 getS, setS, frzS, startE, slK, wipeE, put0, put1, put2, put3, q_add_i, q_add_s, q_add_t, q_add_l, q_sub, q_mul_i, q_mul_s, q_mod, q_neg, q_lt, q_le, q_gt, q_ge, q_eq_i, q_ne_i, q_eq_s, q_ne_s, q_is_bb, q_is_bn, q_is_in, q_is_sn, q_is_tn, q_is_nn, q_isn_bb, q_isn_bn, q_isn_in, q_isn_sn, q_isn_tn, q_isn_nn,
 q_it_l, q_it_t, q_it_k, q_it_s, at0, at1, at2, at3, atm1_1, atm1_2, atm1_a, q_len_s, q_len_l, q_len_t, q_isi, q_int, q_str, ty_int, ty_str, ty_bl, ty_lst, ty_tup, ty_kt, ty_non, isiT, q_sl_s, q_sl_t, q_sl_l,
 n_iZipU, n_iEnU, eqU_l, zqU_ll, zqU_lt, zqU_ls, eqU_t, zqU_tl, zqU_tt, zqU_ts, eqU_s, zqU_sl, zqU_st, zqU_ss, eqU_k,
 List.map_cons, List.map_nil, List.length_cons, List.length_nil, List.cons_append, List.nil_append, List.append_nil, List.replicate_zero, List.replicate_succ, Nat.reduceAdd, Nat.reduceSub, Nat.reduceEqDiff, Nat.reduceLeDiff, Int.reduceAdd, Int.reduceSub, Int.reduceMul, Int.reduceMod, Int.reduceNeg, Int.reduceLT, Int.reduceLE, Int.reduceBEq, decide_true, decide_false, Bool.not_true, Bool.not_false, true_and, and_true, Nat.zero_add]; simpa using h
    | tup ds =>
      rw [smD, Bool.and_eq_true] at hd
      have hl := of_decide_eq_true hd.1
      unfold lim at hl
      have hk := List.all_eq_true.mp hd.2
      have e : mf_law_same (k + 1 + 1) = fnM 2 3 (S_law_same (mf_law_same (k + 1))) := rfl
      rw [e]
      generalize mf_law_same (k + 1) = mr at ih
      simp (decide := true) only [S_law_same, q_ne_bb, n_eVar, n_eVarB, varQ_fz, varB_fz, varB_ow, n_eC, n_eCall, n_aCons, n_aNil, n_eBin, n_eUn, n_eTup, n_eLst, n_eIf, n_eAnd, n_eOr, n_eNot, n_eChain, n_tVal, n_tNot, n_tAnd, n_tOr, n_tTrue,
 n_sSeq, n_sIf, n_sNil, n_sRet, n_sExpr, n_sBreak, n_sCont, n_sSet, n_sSetO, n_sSetZ, n_sFrz, n_sFor, n_gN, pq2_e, n_sPar, n_sParFG, n_sParGF, n_sParFF, n_sP3, n_sP4, n_eTupR, n_eLstR, n_eRevT, q_revT, n_sAsg, n_gTn_t, n_gTn_k, n_gsCons, n_gsNil, n_eLC, n_iSeq, n_seq_s, n_seq_l, n_seq_t, n_seq_k,
 rq1_e, rq2_e, n_iRng1m, n_iRng2m, n_eSl, n_oNone, n_oSome, n_eMeth, n_eRev, apQ_e, n_sAppend, n_sAug, n_fnM, n_ret, n_ask, n_dTuple, cif_t, cif_f, isB_bl, isI_int, optP_s, hasT,
 getS, setS, frzS, startE, slK, wipeE, put0, put1, put2, put3, q_add_i, q_add_s, q_add_t, q_add_l, q_sub, q_mul_i, q_mul_s, q_mod, q_neg, q_lt, q_le, q_gt, q_ge, q_eq_i, q_ne_i, q_eq_s, q_ne_s, q_is_bb, q_is_bn, q_is_in, q_is_sn, q_is_tn, q_is_nn, q_isn_bb, q_isn_bn, q_isn_in, q_isn_sn, q_isn_tn, q_isn_nn,
 q_it_l, q_it_t, q_it_k, q_it_s, at0, at1, at2, at3, atm1_1, atm1_2, atm1_a, q_len_s, q_len_l, q_len_t, q_isi, q_int, q_str, ty_int, ty_str, ty_bl, ty_lst, ty_tup, ty_kt, ty_non, isiT, q_sl_s, q_sl_t, q_sl_l,
 n_iZipU, n_iEnU, eqU_l, zqU_ll, zqU_lt, zqU_ls, eqU_t, zqU_tl, zqU_tt, zqU_ts, eqU_s, zqU_sl, zqU_st, zqU_ss, eqU_k,
 List.map_cons, List.map_nil, List.length_cons, List.length_nil, List.cons_append, List.nil_append, List.append_nil, List.replicate_zero, List.replicate_succ, Nat.reduceAdd, Nat.reduceSub, Nat.reduceEqDiff, Nat.reduceLeDiff, Int.reduceAdd, Int.reduceSub, Int.reduceMul, Int.reduceMod, Int.reduceNeg, Int.reduceLT, Int.reduceLE, Int.reduceBEq, decide_true, decide_false, Bool.not_true, Bool.not_false, true_and, and_true, Nat.zero_add]
      rw [show ((ds.length : Int) == (ds.length : Int)) = true from by simp]
      simp (decide := true) only [n_eVar, n_eVarB, varQ_fz, varB_fz, varB_ow, n_eC, n_eCall, n_aCons, n_aNil, n_eBin, n_eUn, n_eTup, n_eLst, n_eIf, n_eAnd, n_eOr, n_eNot, n_eChain, n_tVal, n_tNot, n_tAnd, n_tOr, n_tTrue,
 n_sSeq, n_sIf, n_sNil, n_sRet, n_sExpr, n_sBreak, n_sCont, n_sSet, n_sSetO, n_sSetZ, n_sFrz, n_sFor, n_gN, pq2_e, n_sPar, n_sParFG, n_sParGF, n_sParFF, n_sP3, n_sP4, n_eTupR, n_eLstR, n_eRevT, q_revT, n_sAsg, n_gTn_t, n_gTn_k, n_gsCons, n_gsNil, n_eLC, n_iSeq, n_seq_s, n_seq_l, n_seq_t, n_seq_k,
 rq1_e, rq2_e, n_iRng1m, n_iRng2m, n_eSl, n_oNone, n_oSome, n_eMeth, n_eRev, apQ_e, n_sAppend, n_sAug, n_fnM, n_ret, n_ask, n_dTuple, cif_t, cif_f, isB_bl, isI_int, optP_s, hasT,
 getS, setS, frzS, startE, slK, wipeE, put0, put1, put2, put3, q_add_i, q_add_s, q_add_t, q_add_l, q_sub, q_mul_i, q_mul_s, q_mod, q_neg, q_lt, q_le, q_gt, q_ge, q_eq_i, q_ne_i, q_eq_s, q_ne_s, q_is_bb, q_is_bn, q_is_in, q_is_sn, q_is_tn, q_is_nn, q_isn_bb, q_isn_bn, q_isn_in, q_isn_sn, q_isn_tn, q_isn_nn,
 q_it_l, q_it_t, q_it_k, q_it_s, at0, at1, at2, at3, atm1_1, atm1_2, atm1_a, q_len_s, q_len_l, q_len_t, q_isi, q_int, q_str, ty_int, ty_str, ty_bl, ty_lst, ty_tup, ty_kt, ty_non, isiT, q_sl_s, q_sl_t, q_sl_l,
 n_iZipU, n_iEnU, eqU_l, zqU_ll, zqU_lt, zqU_ls, eqU_t, zqU_tl, zqU_tt, zqU_ts, eqU_s, zqU_sl, zqU_st, zqU_ss, eqU_k,
 List.map_cons, List.map_nil, List.length_cons, List.length_nil, List.cons_append, List.nil_append, List.append_nil, List.replicate_zero, List.replicate_succ, Nat.reduceAdd, Nat.reduceSub, Nat.reduceEqDiff, Nat.reduceLeDiff, Int.reduceAdd, Int.reduceSub, Int.reduceMul, Int.reduceMod, Int.reduceNeg, Int.reduceLT, Int.reduceLE, Int.reduceBEq, decide_true, decide_false, Bool.not_true, Bool.not_false, true_and, and_true, Nat.zero_add]
      refine ⟨by unfold far; omega, by rw [rngD_len]; simp only [lim]; omega, ?_⟩
      refine lc_pure (fun _ => false) (fun _ => .int 1) _ (fun d hd K K' h1 h2 => ?_) ?_
      · obtain ⟨i, hi, rfl⟩ := mem_rngD hd
        simp only [Int.toNat_natCast] at hi
        simp (decide := true) only [n_eVar, n_eVarB, varQ_fz, varB_fz, varB_ow, n_eC, n_eCall, n_aCons, n_aNil, n_eBin, n_eUn, n_eTup, n_eLst, n_eIf, n_eAnd, n_eOr, n_eNot, n_eChain, n_tVal, n_tNot, n_tAnd, n_tOr, n_tTrue,
 n_sSeq, n_sIf, n_sNil, n_sRet, n_sExpr, n_sBreak, n_sCont, n_sSet, n_sSetO, n_sSetZ, n_sFrz, n_sFor, n_gN, pq2_e, n_sPar, n_sParFG, n_sParGF, n_sParFF, n_sP3, n_sP4, n_eTupR, n_eLstR, n_eRevT, q_revT, n_sAsg, n_gTn_t, n_gTn_k, n_gsCons, n_gsNil, n_eLC, n_iSeq, n_seq_s, n_seq_l, n_seq_t, n_seq_k,
 rq1_e, rq2_e, n_iRng1m, n_iRng2m, n_eSl, n_oNone, n_oSome, n_eMeth, n_eRev, apQ_e, n_sAppend, n_sAug, n_fnM, n_ret, n_ask, n_dTuple, cif_t, cif_f, isB_bl, isI_int, optP_s, hasT,
 getS, setS, frzS, startE, slK, wipeE, put0, put1, put2, put3, q_add_i, q_add_s, q_add_t, q_add_l, q_sub, q_mul_i, q_mul_s, q_mod, q_neg, q_lt, q_le, q_gt, q_ge, q_eq_i, q_ne_i, q_eq_s, q_ne_s, q_is_bb, q_is_bn, q_is_in, q_is_sn, q_is_tn, q_is_nn, q_isn_bb, q_isn_bn, q_isn_in, q_isn_sn, q_isn_tn, q_isn_nn,
 q_it_l, q_it_t, q_it_k, q_it_s, at0, at1, at2, at3, atm1_1, atm1_2, atm1_a, q_len_s, q_len_l, q_len_t, q_isi, q_int, q_str, ty_int, ty_str, ty_bl, ty_lst, ty_tup, ty_kt, ty_non, isiT, q_sl_s, q_sl_t, q_sl_l,
 n_iZipU, n_iEnU, eqU_l, zqU_ll, zqU_lt, zqU_ls, eqU_t, zqU_tl, zqU_tt, zqU_ts, eqU_s, zqU_sl, zqU_st, zqU_ss, eqU_k,
 List.map_cons, List.map_nil, List.length_cons, List.length_nil, List.cons_append, List.nil_append, List.append_nil, List.replicate_zero, List.replicate_succ, Nat.reduceAdd, Nat.reduceSub, Nat.reduceEqDiff, Nat.reduceLeDiff, Int.reduceAdd, Int.reduceSub, Int.reduceMul, Int.reduceMod, Int.reduceNeg, Int.reduceLT, Int.reduceLE, Int.reduceBEq, decide_true, decide_false, Bool.not_true, Bool.not_false, true_and, and_true, Nat.zero_add]
        rw [atD_nat hi]
        simp only [optP_s]
        refine ih _ _ (hk _ (List.getElem_mem hi)) ?_
        simp only [n_eVar, n_eVarB, varQ_fz, varB_fz, varB_ow, n_eC, n_eCall, n_aCons, n_aNil, n_eBin, n_eUn, n_eTup, n_eLst, n_eIf, n_eAnd, n_eOr, n_eNot, n_eChain, n_tVal, n_tNot, n_tAnd, n_tOr, n_tTrue,
 n_sSeq, n_sIf, n_sNil, n_sRet, n_sExpr, n_sBreak, n_sCont, n_sSet, n_sSetO, n_sSetZ, n_sFrz, n_sFor, n_gN, pq2_e, n_sPar, n_sParFG, n_sParGF, n_sParFF, n_sP3, n_sP4, n_eTupR, n_eLstR, n_eRevT, q_revT, n_sAsg, n_gTn_t, n_gTn_k, n_gsCons, n_gsNil, n_eLC, n_iSeq, n_seq_s, n_seq_l, n_seq_t, n_seq_k,
 rq1_e, rq2_e, n_iRng1m, n_iRng2m, n_eSl, n_oNone, n_oSome, n_eMeth, n_eRev, apQ_e, n_sAppend, n_sAug, n_fnM, n_ret, n_ask, n_dTuple, cif_t, cif_f, isB_bl, isI_int, optP_s, hasT,
 getS, setS, frzS, startE, slK, wipeE, put0, put1, put2, put3, q_add_i, q_add_s, q_add_t, q_add_l, q_sub, q_mul_i, q_mul_s, q_mod, q_neg, q_lt, q_le, q_gt, q_ge, q_eq_i, q_ne_i, q_eq_s, q_ne_s, q_is_bb, q_is_bn, q_is_in, q_is_sn, q_is_tn, q_is_nn, q_isn_bb, q_isn_bn, q_isn_in, q_isn_sn, q_isn_tn, q_isn_nn,
 q_it_l, q_it_t, q_it_k, q_it_s, at0, at1, at2, at3, atm1_1, atm1_2, atm1_a, q_len_s, q_len_l, q_len_t, q_isi, q_int, q_str, ty_int, ty_str, ty_bl, ty_lst, ty_tup, ty_kt, ty_non, isiT, q_sl_s, q_sl_t, q_sl_l,
 n_iZipU, n_iEnU, eqU_l, zqU_ll, zqU_lt, zqU_ls, eqU_t, zqU_tl, zqU_tt, zqU_ts, eqU_s, zqU_sl, zqU_st, zqU_ss, eqU_k,
 List.map_cons, List.map_nil, List.length_cons, List.length_nil, List.cons_append, List.nil_append, List.append_nil, List.replicate_zero, List.replicate_succ, Nat.reduceAdd, Nat.reduceSub, Nat.reduceEqDiff, Nat.reduceLeDiff, Int.reduceAdd, Int.reduceSub, Int.reduceMul, Int.reduceMod, Int.reduceNeg, Int.reduceLT, Int.reduceLE, Int.reduceBEq, decide_true, decide_false, Bool.not_true, Bool.not_false, true_and, and_true, Nat.zero_add]
        exact h2 rfl
      · rw [List.filter_eq_nil_iff.mpr (by simp)]
        exact eq_nil_f h
    | _ => cases hd
theorem sp_is_whole_int {i : Int} (h : P (.bl true)) : m_is_whole [.int i] P := ⟨rfl, h⟩
theorem sp_is_whole_bl {i : Bool} (h : P (.bl false)) : m_is_whole [.bl i] P := ⟨rfl, h⟩
theorem sp_is_whole_str {i : List Nat} (h : P (.bl false)) : m_is_whole [.str i] P := ⟨rfl, h⟩
theorem sp_is_whole_non (h : P (.bl false)) : m_is_whole [.non] P := ⟨rfl, h⟩
theorem o0_ok : o0.ok := ⟨by decide, by decide⟩
theorem sp_law_some {xs : List D} (h0 : 0 < xs.length) (h1 : xs.length < 1000000) (h : ∀ x ∈ xs, P x) : m_law_some [.cup, .lst xs] P := by
  simp (decide := true) only [fnM, m_law_some, S_law_some, sSeq, sRet, sSet, sSetO, sSetZ, sAsg, sIf, sNil, sFrz, frzS, sExpr, sFor, sAppend, sPar, sPar3, sParFG, sParGF, sParFF, sPut, sAug, sExt, sBreak, sCont, sStuck,
 eCall, aCons, aNil, eVar, eVarB, eC, eBin, eUn, eAnd, eOr, eNot, eIf, eChain, tVal, tAnd, tOr, tNot, tTrue, eTup, eLst, eMeth, hasT, eSl, oNone, oSome, eRev, eLC, wipeE,
 startE, getS, setS, iSeq, iRng1m, iRng2m, ret, ask, stuck, isNon, gN, gTn, gsCons, gsNil, q_sl_s, q_sl_t, q_sl_l, dTuple, dList,
 put0, put1, put2, put3, optP_s, q_add_i, q_add_s, q_add_t, q_add_l, q_sub, q_mul_i, q_mul_s, q_mod, q_neg, q_lt, q_le, q_gt, q_ge, q_eq_i, q_ne_i, q_eq_s, q_ne_s, q_is_bb, q_is_bn, q_is_in, q_is_sn, q_is_tn, q_is_nn, q_isn_bb, q_isn_bn, q_isn_in, q_isn_sn, q_isn_tn, q_isn_nn,
 q_it_l, q_it_t, q_it_k, q_it_s, at0, at1, at2, at3, atm1_1, atm1_2, atm1_a, q_len_s, q_len_l, q_len_t, q_isi, q_int, q_str, ty_int, ty_str, ty_bl, ty_lst, ty_tup, ty_kt, ty_non, isiT, isB_bl, isI_int, seq_s, seq_l, seq_t, seq_k, tyD,
 List.map_cons, List.map_nil, List.length_cons, List.length_nil, List.cons_append, List.nil_append, List.append_nil, List.replicate_zero, List.replicate_succ, Nat.reduceAdd, Nat.reduceSub, Nat.reduceEqDiff, Nat.reduceLeDiff, Int.reduceAdd, Int.reduceSub, Int.reduceMul, Int.reduceMod, Int.reduceNeg, Int.reduceLT, Int.reduceLE, Int.reduceBEq, decide_true, decide_false, Bool.not_true, Bool.not_false, lim, true_and, and_true, Nat.zero_add]
  exact q_someW h0 h1 h
theorem sp_law_same {d : D} (hd : smD 11 d = true) (h : P (.bl true)) : m_law_same [d, d] P := sp_law_same_k 11 d P hd h
theorem sp_law_word {n : Int} (h0 : 0 ≤ n) (h1 : n ≤ 1000) (h : ∀ s : List Nat, s.length ≤ n → s.all isPc = true → P (.str s)) : m_law_word [.cup, .int n] P := by
  simp (decide := true) only [fnM, m_law_word, S_law_word, sSeq, sRet, sSet, sSetO, sSetZ, sAsg, sIf, sNil, sFrz, frzS, sExpr, sFor, sAppend, sPar, sPar3, sParFG, sParGF, sParFF, sPut, sAug, sExt, sBreak, sCont, sStuck,
 eCall, aCons, aNil, eVar, eVarB, eC, eBin, eUn, eAnd, eOr, eNot, eIf, eChain, tVal, tAnd, tOr, tNot, tTrue, eTup, eLst, eMeth, hasT, eSl, oNone, oSome, eRev, eLC, wipeE,
 startE, getS, setS, iSeq, iRng1m, iRng2m, ret, ask, stuck, isNon, gN, gTn, gsCons, gsNil, q_sl_s, q_sl_t, q_sl_l, dTuple, dList,
 put0, put1, put2, put3, optP_s, q_add_i, q_add_s, q_add_t, q_add_l, q_sub, q_mul_i, q_mul_s, q_mod, q_neg, q_lt, q_le, q_gt, q_ge, q_eq_i, q_ne_i, q_eq_s, q_ne_s, q_is_bb, q_is_bn, q_is_in, q_is_sn, q_is_tn, q_is_nn, q_isn_bb, q_isn_bn, q_isn_in, q_isn_sn, q_isn_tn, q_isn_nn,
 q_it_l, q_it_t, q_it_k, q_it_s, at0, at1, at2, at3, atm1_1, atm1_2, atm1_a, q_len_s, q_len_l, q_len_t, q_isi, q_int, q_str, ty_int, ty_str, ty_bl, ty_lst, ty_tup, ty_kt, ty_non, isiT, isB_bl, isI_int, seq_s, seq_l, seq_t, seq_k, tyD,
 List.map_cons, List.map_nil, List.length_cons, List.length_nil, List.cons_append, List.nil_append, List.append_nil, List.replicate_zero, List.replicate_succ, Nat.reduceAdd, Nat.reduceSub, Nat.reduceEqDiff, Nat.reduceLeDiff, Int.reduceAdd, Int.reduceSub, Int.reduceMul, Int.reduceMod, Int.reduceNeg, Int.reduceLT, Int.reduceLE, Int.reduceBEq, decide_true, decide_false, Bool.not_true, Bool.not_false, lim, true_and, and_true, Nat.zero_add]
  refine q_rollW (by omega) (by omega) fun r hr0 hr1 => ?_
  simp only [sSeq, sRet, sSet, sSetO, sSetZ, sAsg, sIf, sNil, sFrz, frzS, sExpr, sFor, sAppend, sPar, sPar3, sParFG, sParGF, sParFF, sPut, sAug, sExt, sBreak, sCont, sStuck,
 eCall, aCons, aNil, eVar, eVarB, eC, eBin, eUn, eAnd, eOr, eNot, eIf, eChain, tVal, tAnd, tOr, tNot, tTrue, eTup, eLst, eMeth, hasT, eSl, oNone, oSome, eRev, eLC, wipeE,
 startE, getS, setS, iSeq, iRng1m, iRng2m, ret, ask, stuck, isNon, gN, gTn, gsCons, gsNil, q_sl_s, q_sl_t, q_sl_l, dTuple, dList,
 put0, put1, put2, put3, optP_s, q_add_i, q_add_s, q_add_t, q_add_l, q_sub, q_mul_i, q_mul_s, q_mod, q_neg, q_lt, q_le, q_gt, q_ge, q_eq_i, q_ne_i, q_eq_s, q_ne_s, q_is_bb, q_is_bn, q_is_in, q_is_sn, q_is_tn, q_is_nn, q_isn_bb, q_isn_bn, q_isn_in, q_isn_sn, q_isn_tn, q_isn_nn,
 q_it_l, q_it_t, q_it_k, q_it_s, at0, at1, at2, at3, atm1_1, atm1_2, atm1_a, q_len_s, q_len_l, q_len_t, q_isi, q_int, q_str, ty_int, ty_str, ty_bl, ty_lst, ty_tup, ty_kt, ty_non, isiT, isB_bl, isI_int, seq_s, seq_l, seq_t, seq_k, tyD,
 List.map_cons, List.map_nil, List.length_cons, List.length_nil, List.cons_append, List.nil_append, List.append_nil, List.replicate_zero, List.replicate_succ, Nat.reduceAdd, Nat.reduceSub, Nat.reduceEqDiff, Nat.reduceLeDiff, Int.reduceAdd, Int.reduceSub, Int.reduceMul, Int.reduceMod, Int.reduceNeg, Int.reduceLT, Int.reduceLE, Int.reduceBEq, decide_true, decide_false, Bool.not_true, Bool.not_false, lim, true_and, and_true, Nat.zero_add]
  refine ⟨⟨by omega, by omega⟩, by rw [rngD_len]; omega, ?_⟩
  refine lc_rel (fun y => ∃ s, y = .str s ∧ s.length = 1 ∧ s.all isPc = true) _ (fun d hd K hK => ?_) (fun ys hl hy => ?_)
  · simp (decide := true) only [sSeq, sRet, sSet, sSetO, sSetZ, sAsg, sIf, sNil, sFrz, frzS, sExpr, sFor, sAppend, sPar, sPar3, sParFG, sParGF, sParFF, sPut, sAug, sExt, sBreak, sCont, sStuck,
 eCall, aCons, aNil, eVar, eVarB, eC, eBin, eUn, eAnd, eOr, eNot, eIf, eChain, tVal, tAnd, tOr, tNot, tTrue, eTup, eLst, eMeth, hasT, eSl, oNone, oSome, eRev, eLC, wipeE,
 startE, getS, setS, iSeq, iRng1m, iRng2m, ret, ask, stuck, isNon, gN, gTn, gsCons, gsNil, q_sl_s, q_sl_t, q_sl_l, dTuple, dList,
 put0, put1, put2, put3, optP_s, q_add_i, q_add_s, q_add_t, q_add_l, q_sub, q_mul_i, q_mul_s, q_mod, q_neg, q_lt, q_le, q_gt, q_ge, q_eq_i, q_ne_i, q_eq_s, q_ne_s, q_is_bb, q_is_bn, q_is_in, q_is_sn, q_is_tn, q_is_nn, q_isn_bb, q_isn_bn, q_isn_in, q_isn_sn, q_isn_tn, q_isn_nn,
 q_it_l, q_it_t, q_it_k, q_it_s, at0, at1, at2, at3, atm1_1, atm1_2, atm1_a, q_len_s, q_len_l, q_len_t, q_isi, q_int, q_str, ty_int, ty_str, ty_bl, ty_lst, ty_tup, ty_kt, ty_non, isiT, isB_bl, isI_int, seq_s, seq_l, seq_t, seq_k, tyD,
 List.map_cons, List.map_nil, List.length_cons, List.length_nil, List.cons_append, List.nil_append, List.append_nil, List.replicate_zero, List.replicate_succ, Nat.reduceAdd, Nat.reduceSub, Nat.reduceEqDiff, Nat.reduceLeDiff, Int.reduceAdd, Int.reduceSub, Int.reduceMul, Int.reduceMod, Int.reduceNeg, Int.reduceLT, Int.reduceLE, Int.reduceBEq, decide_true, decide_false, Bool.not_true, Bool.not_false, lim, true_and, and_true, Nat.zero_add]
    refine sp_law_some (by decide) (by decide) fun x hx => hK _ ?_
    simp only [List.mem_cons, List.mem_nil_iff, or_false] at hx
    rcases hx with rfl | rfl | rfl <;> exact ⟨_, rfl, rfl, rfl⟩
  · obtain ⟨ss, rfl, hr⟩ := strs_of hy
    simp only [rngD_len, List.length_map] at hl
    have hsum : (ss.map List.length).sum = ss.length := by
      clear hl hy
      induction ss with
      | nil => rfl
      | cons x r ih => simp [(hr x List.mem_cons_self).1, ih fun s hs => hr s (List.mem_cons_of_mem _ hs)]; omega
    rw [q_join (strsD_map _)]
    refine ⟨by simp only [List.length_nil, Nat.mul_zero, lim]; omega, h _ ?_ ?_⟩
    · rw [joinD_nil_sep, List.length_flatten, hsum]; omega
    · rw [joinD_nil_sep, List.all_flatten]
      exact List.all_eq_true.mpr fun x hx => (hr x hx).2
theorem isPc_in {c : Nat} : isPc c = decide (c = 115 ∨ c = 108 ∨ c = 114) := by unfold isPc; rw [Bool.eq_iff_iff]; simp
variable {P : D → Prop}
/-- simple data -/
def siD : D → Bool
  | .non => true
  | .bl _ => true
  | .int _ => true
  | .str s => decide (s.length ≤ 1000)
  | _ => false
def whD (lo hi : Int) : D → Bool
  | .int i => decide (lo ≤ i) && decide (i ≤ hi)
  | _ => false
def inI : D → Bool
  | .int _ => true
  | _ => false
theorem sp_fits_whole {d : D} {lo hi : Int} (hd : siD d = true) (h : P (.bl (whD lo hi d))) : m_fits_whole [d, .int lo, .int hi] P := by
  cases d with
  | non => exact ⟨rfl, rfl, h⟩
  | bl b => exact ⟨rfl, rfl, h⟩
  | str s => exact ⟨rfl, rfl, h⟩
  | int i =>
    simp (decide := true) only [fnM, m_fits_whole, S_fits_whole, sSeq, sRet, sSet, sSetO, sSetZ, sAsg, sIf, sNil, sFrz, frzS, sExpr, sFor, sAppend, sPar, sPar3, sParFG, sParGF, sParFF, sPut, sAug, sExt, sBreak, sCont, sStuck,
 eCall, aCons, aNil, eVar, eVarB, eC, eBin, eUn, eAnd, eOr, eNot, eIf, eChain, tVal, tAnd, tOr, tNot, tTrue, eTup, eLst, eMeth, hasT, eSl, oNone, oSome, eRev, eLC, wipeE,
 startE, getS, setS, iSeq, iRng1m, iRng2m, ret, ask, stuck, isNon, gN, gTn, gsCons, gsNil, q_sl_s, q_sl_t, q_sl_l, dTuple, dList,
 put0, put1, put2, put3, optP_s, q_add_i, q_add_s, q_add_t, q_add_l, q_sub, q_mul_i, q_mul_s, q_mod, q_neg, q_lt, q_le, q_gt, q_ge, q_eq_i, q_ne_i, q_eq_s, q_ne_s, q_is_bb, q_is_bn, q_is_in, q_is_sn, q_is_tn, q_is_nn, q_isn_bb, q_isn_bn, q_isn_in, q_isn_sn, q_isn_tn, q_isn_nn,
 q_it_l, q_it_t, q_it_k, q_it_s, at0, at1, at2, at3, atm1_1, atm1_2, atm1_a, q_len_s, q_len_l, q_len_t, q_isi, q_int, q_str, ty_int, ty_str, ty_bl, ty_lst, ty_tup, ty_kt, ty_non, isiT, isB_bl, isI_int, seq_s, seq_l, seq_t, seq_k, tyD,
 List.map_cons, List.map_nil, List.length_cons, List.length_nil, List.cons_append, List.nil_append, List.append_nil, List.replicate_zero, List.replicate_succ, Nat.reduceAdd, Nat.reduceSub, Nat.reduceEqDiff, Nat.reduceLeDiff, Int.reduceAdd, Int.reduceSub, Int.reduceMul, Int.reduceMod, Int.reduceNeg, Int.reduceLT, Int.reduceLE, Int.reduceBEq, decide_true, decide_false, Bool.not_true, Bool.not_false, lim, true_and, and_true, Nat.zero_add]
    refine sp_is_whole_int ?_
    simp (decide := true) only [sSeq, sRet, sSet, sSetO, sSetZ, sAsg, sIf, sNil, sFrz, frzS, sExpr, sFor, sAppend, sPar, sPar3, sParFG, sParGF, sParFF, sPut, sAug, sExt, sBreak, sCont, sStuck,
 eCall, aCons, aNil, eVar, eVarB, eC, eBin, eUn, eAnd, eOr, eNot, eIf, eChain, tVal, tAnd, tOr, tNot, tTrue, eTup, eLst, eMeth, hasT, eSl, oNone, oSome, eRev, eLC, wipeE,
 startE, getS, setS, iSeq, iRng1m, iRng2m, ret, ask, stuck, isNon, gN, gTn, gsCons, gsNil, q_sl_s, q_sl_t, q_sl_l, dTuple, dList,
 put0, put1, put2, put3, optP_s, q_add_i, q_add_s, q_add_t, q_add_l, q_sub, q_mul_i, q_mul_s, q_mod, q_neg, q_lt, q_le, q_gt, q_ge, q_eq_i, q_ne_i, q_eq_s, q_ne_s, q_is_bb, q_is_bn, q_is_in, q_is_sn, q_is_tn, q_is_nn, q_isn_bb, q_isn_bn, q_isn_in, q_isn_sn, q_isn_tn, q_isn_nn,
 q_it_l, q_it_t, q_it_k, q_it_s, at0, at1, at2, at3, atm1_1, atm1_2, atm1_a, q_len_s, q_len_l, q_len_t, q_isi, q_int, q_str, ty_int, ty_str, ty_bl, ty_lst, ty_tup, ty_kt, ty_non, isiT, isB_bl, isI_int, seq_s, seq_l, seq_t, seq_k, tyD,
 List.map_cons, List.map_nil, List.length_cons, List.length_nil, List.cons_append, List.nil_append, List.append_nil, List.replicate_zero, List.replicate_succ, Nat.reduceAdd, Nat.reduceSub, Nat.reduceEqDiff, Nat.reduceLeDiff, Int.reduceAdd, Int.reduceSub, Int.reduceMul, Int.reduceMod, Int.reduceNeg, Int.reduceLT, Int.reduceLE, Int.reduceBEq, decide_true, decide_false, Bool.not_true, Bool.not_false, lim, true_and, and_true, Nat.zero_add]
    simp only [whD] at h
    cases e : decide (lo ≤ i)
    · rw [e] at h; exact h
    · rw [e] at h; exact h
  | _ => cases hd
end L37
set_option Elab.async false
set_option linter.all false
set_option maxRecDepth 100000
set_option maxHeartbeats 2000000
namespace L37
open G
variable {P : D → Prop}
def boxD (rs us : List Int) : D := .tup [.tup [.int (lmin rs), .int (lmin us)], .tup [.int (lmax rs), .int (lmax us)]]
def zD (q : Q4) : D := .tup [.int q.a, .int q.b, .int q.c, .int q.d]
def lD (e : E8) : D := .tup [zD e.z, .int e.w]
def tD (e : E8) : D := .tup [.tup [.int (2 * e.z.a), .int (e.z.b - e.z.d)], .tup [.int (2 * e.z.c), .int (e.z.b + e.z.d)], .int e.w]
theorem tE_ok {x1 x2 y1 y2 w : Int} {e : E8} (h1 : x1 = 2 * e.z.a) (h2 : x2 = e.z.b - e.z.d) (h3 : y1 = 2 * e.z.c) (h4 : y2 = e.z.b + e.z.d) (h5 : w = e.w) (h : P (tD e)) : P (.tup [.tup [.int x1, .int x2], .tup [.int y1, .int y2], .int w]) := by
  subst h1 h2 h3 h4 h5; exact h
theorem lE_ok {a b c d w : Int} {e : E8} (h1 : a = e.z.a) (h2 : b = e.z.b) (h3 : c = e.z.c) (h4 : d = e.z.d) (h5 : w = e.w) (h : P (lD e)) : P (.tup [.tup [.int a, .int b, .int c, .int d], .int w]) := by
  subst h1 h2 h3 h4 h5; exact h
theorem zE_ok {a b c d : Int} {q : Q4} (h1 : a = q.a) (h2 : b = q.b) (h3 : c = q.c) (h4 : d = q.d) (h : P (zD q)) : P (.tup [.int a, .int b, .int c, .int d]) := by
  subst h1 h2 h3 h4; exact h
def isQ (a b : Int) (x : D) : Prop := x = .tup [.int a, .int b] ∨ x = .kt [.int a, .int b]
theorem isQ0 {a b : Int} {x : D} (h : isQ a b x) {Q : D → Prop} : dItem x (.int 0) Q = Q (.int a) := by
  rcases h with rfl | rfl
  · rw [q_it_t, at0, optP_s]
  · rw [q_it_k, at0, optP_s]
theorem isQ1 {a b : Int} {x : D} (h : isQ a b x) {Q : D → Prop} : dItem x (.int 1) Q = Q (.int b) := by
  rcases h with rfl | rfl
  · rw [q_it_t, at1, optP_s]
  · rw [q_it_k, at1, optP_s]
theorem sp_plus {a b c d : Int} {x y : D} (hx : isQ a b x) (hy : isQ c d y) (h : P (.tup [.int (a + c), .int (b + d)])) : m_plus [x, y] P := by
  simp only [m_plus, S_plus, n_eVar, n_eVarB, varQ_fz, varB_fz, varB_ow, n_eC, n_eCall, n_aCons, n_aNil, n_eBin, n_eUn, n_eTup, n_eLst, n_eIf, n_eAnd, n_eOr, n_eNot, n_eChain, n_tVal, n_tNot, n_tAnd, n_tOr, n_tTrue,
 n_sSeq, n_sIf, n_sNil, n_sRet, n_sExpr, n_sBreak, n_sCont, n_sSet, n_sSetO, n_sSetZ, n_sFrz, n_sFor, n_gN, pq2_e, n_sPar, n_sParFG, n_sParGF, n_sParFF, n_sP3, n_sP4, n_eTupR, n_eLstR, n_eRevT, q_revT, n_sAsg, n_gTn_t, n_gTn_k, n_gsCons, n_gsNil, n_eLC, n_iSeq, n_seq_s, n_seq_l, n_seq_t, n_seq_k,
 rq1_e, rq2_e, n_iRng1m, n_iRng2m, n_eSl, n_oNone, n_oSome, n_eMeth, n_eRev, apQ_e, n_sAppend, n_sAug, n_fnM, n_ret, n_ask, n_dTuple, cif_t, cif_f, isB_bl, isI_int, optP_s, hasT,
 getS, setS, frzS, startE, slK, wipeE, put0, put1, put2, put3, q_add_i, q_add_s, q_add_t, q_add_l, q_sub, q_mul_i, q_mul_s, q_mod, q_neg, q_lt, q_le, q_gt, q_ge, q_eq_i, q_ne_i, q_eq_s, q_ne_s, q_is_bb, q_is_bn, q_is_in, q_is_sn, q_is_tn, q_is_nn, q_isn_bb, q_isn_bn, q_isn_in, q_isn_sn, q_isn_tn, q_isn_nn,
 q_it_l, q_it_t, q_it_k, q_it_s, at0, at1, at2, at3, atm1_1, atm1_2, atm1_a, q_len_s, q_len_l, q_len_t, q_isi, q_int, q_str, ty_int, ty_str, ty_bl, ty_lst, ty_tup, ty_kt, ty_non, isiT, q_sl_s, q_sl_t, q_sl_l,
 n_iZipU, n_iEnU, eqU_l, zqU_ll, zqU_lt, zqU_ls, eqU_t, zqU_tl, zqU_tt, zqU_ts, eqU_s, zqU_sl, zqU_st, zqU_ss, eqU_k,
 List.map_cons, List.map_nil, List.length_cons, List.length_nil, List.cons_append, List.nil_append, List.append_nil, List.replicate_zero, List.replicate_succ, Nat.reduceAdd, Nat.reduceSub, Nat.reduceEqDiff, Nat.reduceLeDiff, Int.reduceAdd, Int.reduceSub, Int.reduceMul, Int.reduceMod, Int.reduceNeg, Int.reduceLT, Int.reduceLE, Int.reduceBEq, decide_true, decide_false, Bool.not_true, Bool.not_false, true_and, and_true, Nat.zero_add, isQ0 hx, isQ1 hx, isQ0 hy, isQ1 hy]
  exact ⟨(show 2 ≤ lim by decide), h⟩
theorem sp_minus {a b c d : Int} {x y : D} (hx : isQ a b x) (hy : isQ c d y) (h : P (.tup [.int (a - c), .int (b - d)])) : m_minus [x, y] P := by
  simp only [m_minus, S_minus, n_eVar, n_eVarB, varQ_fz, varB_fz, varB_ow, n_eC, n_eCall, n_aCons, n_aNil, n_eBin, n_eUn, n_eTup, n_eLst, n_eIf, n_eAnd, n_eOr, n_eNot, n_eChain, n_tVal, n_tNot, n_tAnd, n_tOr, n_tTrue,
 n_sSeq, n_sIf, n_sNil, n_sRet, n_sExpr, n_sBreak, n_sCont, n_sSet, n_sSetO, n_sSetZ, n_sFrz, n_sFor, n_gN, pq2_e, n_sPar, n_sParFG, n_sParGF, n_sParFF, n_sP3, n_sP4, n_eTupR, n_eLstR, n_eRevT, q_revT, n_sAsg, n_gTn_t, n_gTn_k, n_gsCons, n_gsNil, n_eLC, n_iSeq, n_seq_s, n_seq_l, n_seq_t, n_seq_k,
 rq1_e, rq2_e, n_iRng1m, n_iRng2m, n_eSl, n_oNone, n_oSome, n_eMeth, n_eRev, apQ_e, n_sAppend, n_sAug, n_fnM, n_ret, n_ask, n_dTuple, cif_t, cif_f, isB_bl, isI_int, optP_s, hasT,
 getS, setS, frzS, startE, slK, wipeE, put0, put1, put2, put3, q_add_i, q_add_s, q_add_t, q_add_l, q_sub, q_mul_i, q_mul_s, q_mod, q_neg, q_lt, q_le, q_gt, q_ge, q_eq_i, q_ne_i, q_eq_s, q_ne_s, q_is_bb, q_is_bn, q_is_in, q_is_sn, q_is_tn, q_is_nn, q_isn_bb, q_isn_bn, q_isn_in, q_isn_sn, q_isn_tn, q_isn_nn,
 q_it_l, q_it_t, q_it_k, q_it_s, at0, at1, at2, at3, atm1_1, atm1_2, atm1_a, q_len_s, q_len_l, q_len_t, q_isi, q_int, q_str, ty_int, ty_str, ty_bl, ty_lst, ty_tup, ty_kt, ty_non, isiT, q_sl_s, q_sl_t, q_sl_l,
 n_iZipU, n_iEnU, eqU_l, zqU_ll, zqU_lt, zqU_ls, eqU_t, zqU_tl, zqU_tt, zqU_ts, eqU_s, zqU_sl, zqU_st, zqU_ss, eqU_k,
 List.map_cons, List.map_nil, List.length_cons, List.length_nil, List.cons_append, List.nil_append, List.append_nil, List.replicate_zero, List.replicate_succ, Nat.reduceAdd, Nat.reduceSub, Nat.reduceEqDiff, Nat.reduceLeDiff, Int.reduceAdd, Int.reduceSub, Int.reduceMul, Int.reduceMod, Int.reduceNeg, Int.reduceLT, Int.reduceLE, Int.reduceBEq, decide_true, decide_false, Bool.not_true, Bool.not_false, true_and, and_true, Nat.zero_add, isQ0 hx, isQ1 hx, isQ0 hy, isQ1 hy]
  exact ⟨(show 2 ≤ lim by decide), h⟩
def cx (k : Int) : Int := if k = 0 then 2 else if k = 4 then -2 else 0
def cy (k : Int) : Int := if k = 1 ∨ k = 7 then 1 else if k = 3 ∨ k = 5 then -1 else 0
theorem eight {t : Int} (h0 : 0 ≤ t) (h1 : t < 8) : t = 0 ∨ t = 1 ∨ t = 2 ∨ t = 3 ∨ t = 4 ∨ t = 5 ∨ t = 6 ∨ t = 7 := by omega
theorem cos_at {t : Int} (h0 : 0 ≤ t) (h1 : t < 8) {Q : D → Prop} (h : ∀ x, isQ (cx t) (cy t) x → Q x) : dItem c_COSINES (.int t) Q := by
  unfold c_COSINES
  rw [q_it_k]
  rcases eight h0 h1 with rfl | rfl | rfl | rfl | rfl | rfl | rfl | rfl <;> exact h _ (.inr rfl)
theorem sp_cosine {w : Int} (h : ∀ x, isQ (cx (w % 8)) (cy (w % 8)) x → P x) : m_cosine [.int w] P := by
  simp only [m_cosine, S_cosine, n_fnM, startE, n_sRet, n_eBin, n_eC, n_eVar, varQ_fz, getS, q_mod, q_add_i, List.map_cons, List.map_nil, List.length_cons, List.length_nil, List.cons_append, List.nil_append, List.replicate_zero, List.append_nil, Nat.reduceAdd, Nat.reduceSub, true_and]
  exact ⟨by omega, cos_at (Int.emod_nonneg _ (by omega)) (Int.emod_lt_of_pos _ (by omega)) h⟩
theorem sp_sine {w : Int} (h : ∀ x, isQ (cx ((w + 6) % 8)) (cy ((w + 6) % 8)) x → P x) : m_sine [.int w] P := by
  simp only [m_sine, S_sine, n_fnM, startE, n_sRet, n_eBin, n_eC, n_eVar, varQ_fz, getS, q_mod, q_add_i, List.map_cons, List.map_nil, List.length_cons, List.length_nil, List.cons_append, List.nil_append, List.replicate_zero, List.append_nil, Nat.reduceAdd, Nat.reduceSub, true_and]
  exact ⟨by omega, cos_at (Int.emod_nonneg _ (by omega)) (Int.emod_lt_of_pos _ (by omega)) h⟩
theorem sp_behind_in {e : E8} {c : Nat} (he : e.ok) (hc : isPc c = true) (h : P (tD (stepE e c))) : m_behind_in [tD e, .str [c]] P := by
  obtain ⟨q, w⟩ := e
  obtain ⟨w0, w1⟩ := he
  simp only at w0 w1
  simp only [m_behind_in, S_behind_in, tD, n_eVar, n_eVarB, varQ_fz, varB_fz, varB_ow, n_eC, n_eCall, n_aCons, n_aNil, n_eBin, n_eUn, n_eTup, n_eLst, n_eIf, n_eAnd, n_eOr, n_eNot, n_eChain, n_tVal, n_tNot, n_tAnd, n_tOr, n_tTrue,
 n_sSeq, n_sIf, n_sNil, n_sRet, n_sExpr, n_sBreak, n_sCont, n_sSet, n_sSetO, n_sSetZ, n_sFrz, n_sFor, n_gN, pq2_e, n_sPar, n_sParFG, n_sParGF, n_sParFF, n_sP3, n_sP4, n_eTupR, n_eLstR, n_eRevT, q_revT, n_sAsg, n_gTn_t, n_gTn_k, n_gsCons, n_gsNil, n_eLC, n_iSeq, n_seq_s, n_seq_l, n_seq_t, n_seq_k,
 rq1_e, rq2_e, n_iRng1m, n_iRng2m, n_eSl, n_oNone, n_oSome, n_eMeth, n_eRev, apQ_e, n_sAppend, n_sAug, n_fnM, n_ret, n_ask, n_dTuple, cif_t, cif_f, isB_bl, isI_int, optP_s, hasT,
 getS, setS, frzS, startE, slK, wipeE, put0, put1, put2, put3, q_add_i, q_add_s, q_add_t, q_add_l, q_sub, q_mul_i, q_mul_s, q_mod, q_neg, q_lt, q_le, q_gt, q_ge, q_eq_i, q_ne_i, q_eq_s, q_ne_s, q_is_bb, q_is_bn, q_is_in, q_is_sn, q_is_tn, q_is_nn, q_isn_bb, q_isn_bn, q_isn_in, q_isn_sn, q_isn_tn, q_isn_nn,
 q_it_l, q_it_t, q_it_k, q_it_s, at0, at1, at2, at3, atm1_1, atm1_2, atm1_a, q_len_s, q_len_l, q_len_t, q_isi, q_int, q_str, ty_int, ty_str, ty_bl, ty_lst, ty_tup, ty_kt, ty_non, isiT, q_sl_s, q_sl_t, q_sl_l,
 n_iZipU, n_iEnU, eqU_l, zqU_ll, zqU_lt, zqU_ls, eqU_t, zqU_tl, zqU_tt, zqU_ts, eqU_s, zqU_sl, zqU_st, zqU_ss, eqU_k,
 List.map_cons, List.map_nil, List.length_cons, List.length_nil, List.cons_append, List.nil_append, List.append_nil, List.replicate_zero, List.replicate_succ, Nat.reduceAdd, Nat.reduceSub, Nat.reduceEqDiff, Nat.reduceLeDiff, Int.reduceAdd, Int.reduceSub, Int.reduceMul, Int.reduceMod, Int.reduceNeg, Int.reduceLT, Int.reduceLE, Int.reduceBEq, decide_true, decide_false, Bool.not_true, Bool.not_false, true_and, and_true, Nat.zero_add]
  rcases isPc_or hc with rfl | rfl | rfl
  · simp (decide := true) only [n_eVar, n_eVarB, varQ_fz, varB_fz, varB_ow, n_eC, n_eCall, n_aCons, n_aNil, n_eBin, n_eUn, n_eTup, n_eLst, n_eIf, n_eAnd, n_eOr, n_eNot, n_eChain, n_tVal, n_tNot, n_tAnd, n_tOr, n_tTrue,
 n_sSeq, n_sIf, n_sNil, n_sRet, n_sExpr, n_sBreak, n_sCont, n_sSet, n_sSetO, n_sSetZ, n_sFrz, n_sFor, n_gN, pq2_e, n_sPar, n_sParFG, n_sParGF, n_sParFF, n_sP3, n_sP4, n_eTupR, n_eLstR, n_eRevT, q_revT, n_sAsg, n_gTn_t, n_gTn_k, n_gsCons, n_gsNil, n_eLC, n_iSeq, n_seq_s, n_seq_l, n_seq_t, n_seq_k,
 rq1_e, rq2_e, n_iRng1m, n_iRng2m, n_eSl, n_oNone, n_oSome, n_eMeth, n_eRev, apQ_e, n_sAppend, n_sAug, n_fnM, n_ret, n_ask, n_dTuple, cif_t, cif_f, isB_bl, isI_int, optP_s, hasT,
 getS, setS, frzS, startE, slK, wipeE, put0, put1, put2, put3, q_add_i, q_add_s, q_add_t, q_add_l, q_sub, q_mul_i, q_mul_s, q_mod, q_neg, q_lt, q_le, q_gt, q_ge, q_eq_i, q_ne_i, q_eq_s, q_ne_s, q_is_bb, q_is_bn, q_is_in, q_is_sn, q_is_tn, q_is_nn, q_isn_bb, q_isn_bn, q_isn_in, q_isn_sn, q_isn_tn, q_isn_nn,
 q_it_l, q_it_t, q_it_k, q_it_s, at0, at1, at2, at3, atm1_1, atm1_2, atm1_a, q_len_s, q_len_l, q_len_t, q_isi, q_int, q_str, ty_int, ty_str, ty_bl, ty_lst, ty_tup, ty_kt, ty_non, isiT, q_sl_s, q_sl_t, q_sl_l,
 n_iZipU, n_iEnU, eqU_l, zqU_ll, zqU_lt, zqU_ls, eqU_t, zqU_tl, zqU_tt, zqU_ts, eqU_s, zqU_sl, zqU_st, zqU_ss, eqU_k,
 List.map_cons, List.map_nil, List.length_cons, List.length_nil, List.cons_append, List.nil_append, List.append_nil, List.replicate_zero, List.replicate_succ, Nat.reduceAdd, Nat.reduceSub, Nat.reduceEqDiff, Nat.reduceLeDiff, Int.reduceAdd, Int.reduceSub, Int.reduceMul, Int.reduceMod, Int.reduceNeg, Int.reduceLT, Int.reduceLE, Int.reduceBEq, decide_true, decide_false, Bool.not_true, Bool.not_false, true_and, and_true, Nat.zero_add]
    refine sp_cosine fun x hx => sp_plus (.inl rfl) hx (sp_sine fun y hy => sp_plus (.inl rfl) hy ?_)
    refine tE_ok (e := stepE ⟨q, w⟩ 115) ?_ ?_ ?_ ?_ ?_ h <;> (rcases eight w0 w1 with rfl | rfl | rfl | rfl | rfl | rfl | rfl | rfl <;> simp [stepE, dlt, tau, q1, qadd, rotW, rotk, rot, cx, cy] <;> omega)
  · simp (decide := true) only [n_eVar, n_eVarB, varQ_fz, varB_fz, varB_ow, n_eC, n_eCall, n_aCons, n_aNil, n_eBin, n_eUn, n_eTup, n_eLst, n_eIf, n_eAnd, n_eOr, n_eNot, n_eChain, n_tVal, n_tNot, n_tAnd, n_tOr, n_tTrue,
 n_sSeq, n_sIf, n_sNil, n_sRet, n_sExpr, n_sBreak, n_sCont, n_sSet, n_sSetO, n_sSetZ, n_sFrz, n_sFor, n_gN, pq2_e, n_sPar, n_sParFG, n_sParGF, n_sParFF, n_sP3, n_sP4, n_eTupR, n_eLstR, n_eRevT, q_revT, n_sAsg, n_gTn_t, n_gTn_k, n_gsCons, n_gsNil, n_eLC, n_iSeq, n_seq_s, n_seq_l, n_seq_t, n_seq_k,
 rq1_e, rq2_e, n_iRng1m, n_iRng2m, n_eSl, n_oNone, n_oSome, n_eMeth, n_eRev, apQ_e, n_sAppend, n_sAug, n_fnM, n_ret, n_ask, n_dTuple, cif_t, cif_f, isB_bl, isI_int, optP_s, hasT,
 getS, setS, frzS, startE, slK, wipeE, put0, put1, put2, put3, q_add_i, q_add_s, q_add_t, q_add_l, q_sub, q_mul_i, q_mul_s, q_mod, q_neg, q_lt, q_le, q_gt, q_ge, q_eq_i, q_ne_i, q_eq_s, q_ne_s, q_is_bb, q_is_bn, q_is_in, q_is_sn, q_is_tn, q_is_nn, q_isn_bb, q_isn_bn, q_isn_in, q_isn_sn, q_isn_tn, q_isn_nn,
 q_it_l, q_it_t, q_it_k, q_it_s, at0, at1, at2, at3, atm1_1, atm1_2, atm1_a, q_len_s, q_len_l, q_len_t, q_isi, q_int, q_str, ty_int, ty_str, ty_bl, ty_lst, ty_tup, ty_kt, ty_non, isiT, q_sl_s, q_sl_t, q_sl_l,
 n_iZipU, n_iEnU, eqU_l, zqU_ll, zqU_lt, zqU_ls, eqU_t, zqU_tl, zqU_tt, zqU_ts, eqU_s, zqU_sl, zqU_st, zqU_ss, eqU_k,
 List.map_cons, List.map_nil, List.length_cons, List.length_nil, List.cons_append, List.nil_append, List.append_nil, List.replicate_zero, List.replicate_succ, Nat.reduceAdd, Nat.reduceSub, Nat.reduceEqDiff, Nat.reduceLeDiff, Int.reduceAdd, Int.reduceSub, Int.reduceMul, Int.reduceMod, Int.reduceNeg, Int.reduceLT, Int.reduceLE, Int.reduceBEq, decide_true, decide_false, Bool.not_true, Bool.not_false, true_and, and_true, Nat.zero_add]
    refine sp_sine fun a ha => sp_sine fun b hb => sp_minus ha hb (sp_plus (.inl rfl) (.inl rfl) (sp_cosine fun a2 ha2 => sp_cosine fun b2 hb2 => sp_minus ha2 hb2 (sp_plus (.inl rfl) (.inl rfl) ?_)))
    try simp (decide := true) only [n_eVar, n_eVarB, varQ_fz, varB_fz, varB_ow, n_eC, n_eCall, n_aCons, n_aNil, n_eBin, n_eUn, n_eTup, n_eLst, n_eIf, n_eAnd, n_eOr, n_eNot, n_eChain, n_tVal, n_tNot, n_tAnd, n_tOr, n_tTrue,
 n_sSeq, n_sIf, n_sNil, n_sRet, n_sExpr, n_sBreak, n_sCont, n_sSet, n_sSetO, n_sSetZ, n_sFrz, n_sFor, n_gN, pq2_e, n_sPar, n_sParFG, n_sParGF, n_sParFF, n_sP3, n_sP4, n_eTupR, n_eLstR, n_eRevT, q_revT, n_sAsg, n_gTn_t, n_gTn_k, n_gsCons, n_gsNil, n_eLC, n_iSeq, n_seq_s, n_seq_l, n_seq_t, n_seq_k,
 rq1_e, rq2_e, n_iRng1m, n_iRng2m, n_eSl, n_oNone, n_oSome, n_eMeth, n_eRev, apQ_e, n_sAppend, n_sAug, n_fnM, n_ret, n_ask, n_dTuple, cif_t, cif_f, isB_bl, isI_int, optP_s, hasT,
 getS, setS, frzS, startE, slK, wipeE, put0, put1, put2, put3, q_add_i, q_add_s, q_add_t, q_add_l, q_sub, q_mul_i, q_mul_s, q_mod, q_neg, q_lt, q_le, q_gt, q_ge, q_eq_i, q_ne_i, q_eq_s, q_ne_s, q_is_bb, q_is_bn, q_is_in, q_is_sn, q_is_tn, q_is_nn, q_isn_bb, q_isn_bn, q_isn_in, q_isn_sn, q_isn_tn, q_isn_nn,
 q_it_l, q_it_t, q_it_k, q_it_s, at0, at1, at2, at3, atm1_1, atm1_2, atm1_a, q_len_s, q_len_l, q_len_t, q_isi, q_int, q_str, ty_int, ty_str, ty_bl, ty_lst, ty_tup, ty_kt, ty_non, isiT, q_sl_s, q_sl_t, q_sl_l,
 n_iZipU, n_iEnU, eqU_l, zqU_ll, zqU_lt, zqU_ls, eqU_t, zqU_tl, zqU_tt, zqU_ts, eqU_s, zqU_sl, zqU_st, zqU_ss, eqU_k,
 List.map_cons, List.map_nil, List.length_cons, List.length_nil, List.cons_append, List.nil_append, List.append_nil, List.replicate_zero, List.replicate_succ, Nat.reduceAdd, Nat.reduceSub, Nat.reduceEqDiff, Nat.reduceLeDiff, Int.reduceAdd, Int.reduceSub, Int.reduceMul, Int.reduceMod, Int.reduceNeg, Int.reduceLT, Int.reduceLE, Int.reduceBEq, decide_true, decide_false, Bool.not_true, Bool.not_false, true_and, and_true, Nat.zero_add]
    refine tE_ok (e := stepE ⟨q, w⟩ 108) ?_ ?_ ?_ ?_ ?_ h <;> (rcases eight w0 w1 with rfl | rfl | rfl | rfl | rfl | rfl | rfl | rfl <;> simp [stepE, dlt, tau, q1, qadd, rotW, rotk, rot, cx, cy] <;> omega)
  · simp (decide := true) only [n_eVar, n_eVarB, varQ_fz, varB_fz, varB_ow, n_eC, n_eCall, n_aCons, n_aNil, n_eBin, n_eUn, n_eTup, n_eLst, n_eIf, n_eAnd, n_eOr, n_eNot, n_eChain, n_tVal, n_tNot, n_tAnd, n_tOr, n_tTrue,
 n_sSeq, n_sIf, n_sNil, n_sRet, n_sExpr, n_sBreak, n_sCont, n_sSet, n_sSetO, n_sSetZ, n_sFrz, n_sFor, n_gN, pq2_e, n_sPar, n_sParFG, n_sParGF, n_sParFF, n_sP3, n_sP4, n_eTupR, n_eLstR, n_eRevT, q_revT, n_sAsg, n_gTn_t, n_gTn_k, n_gsCons, n_gsNil, n_eLC, n_iSeq, n_seq_s, n_seq_l, n_seq_t, n_seq_k,
 rq1_e, rq2_e, n_iRng1m, n_iRng2m, n_eSl, n_oNone, n_oSome, n_eMeth, n_eRev, apQ_e, n_sAppend, n_sAug, n_fnM, n_ret, n_ask, n_dTuple, cif_t, cif_f, isB_bl, isI_int, optP_s, hasT,
 getS, setS, frzS, startE, slK, wipeE, put0, put1, put2, put3, q_add_i, q_add_s, q_add_t, q_add_l, q_sub, q_mul_i, q_mul_s, q_mod, q_neg, q_lt, q_le, q_gt, q_ge, q_eq_i, q_ne_i, q_eq_s, q_ne_s, q_is_bb, q_is_bn, q_is_in, q_is_sn, q_is_tn, q_is_nn, q_isn_bb, q_isn_bn, q_isn_in, q_isn_sn, q_isn_tn, q_isn_nn,
 q_it_l, q_it_t, q_it_k, q_it_s, at0, at1, at2, at3, atm1_1, atm1_2, atm1_a, q_len_s, q_len_l, q_len_t, q_isi, q_int, q_str, ty_int, ty_str, ty_bl, ty_lst, ty_tup, ty_kt, ty_non, isiT, q_sl_s, q_sl_t, q_sl_l,
 n_iZipU, n_iEnU, eqU_l, zqU_ll, zqU_lt, zqU_ls, eqU_t, zqU_tl, zqU_tt, zqU_ts, eqU_s, zqU_sl, zqU_st, zqU_ss, eqU_k,
 List.map_cons, List.map_nil, List.length_cons, List.length_nil, List.cons_append, List.nil_append, List.append_nil, List.replicate_zero, List.replicate_succ, Nat.reduceAdd, Nat.reduceSub, Nat.reduceEqDiff, Nat.reduceLeDiff, Int.reduceAdd, Int.reduceSub, Int.reduceMul, Int.reduceMod, Int.reduceNeg, Int.reduceLT, Int.reduceLE, Int.reduceBEq, decide_true, decide_false, Bool.not_true, Bool.not_false, true_and, and_true, Nat.zero_add]
    refine sp_sine fun a ha => sp_sine fun b hb => sp_minus ha hb (sp_plus (.inl rfl) (.inl rfl) (sp_cosine fun a2 ha2 => sp_cosine fun b2 hb2 => sp_minus ha2 hb2 (sp_plus (.inl rfl) (.inl rfl) ?_)))
    try simp (decide := true) only [n_eVar, n_eVarB, varQ_fz, varB_fz, varB_ow, n_eC, n_eCall, n_aCons, n_aNil, n_eBin, n_eUn, n_eTup, n_eLst, n_eIf, n_eAnd, n_eOr, n_eNot, n_eChain, n_tVal, n_tNot, n_tAnd, n_tOr, n_tTrue,
 n_sSeq, n_sIf, n_sNil, n_sRet, n_sExpr, n_sBreak, n_sCont, n_sSet, n_sSetO, n_sSetZ, n_sFrz, n_sFor, n_gN, pq2_e, n_sPar, n_sParFG, n_sParGF, n_sParFF, n_sP3, n_sP4, n_eTupR, n_eLstR, n_eRevT, q_revT, n_sAsg, n_gTn_t, n_gTn_k, n_gsCons, n_gsNil, n_eLC, n_iSeq, n_seq_s, n_seq_l, n_seq_t, n_seq_k,
 rq1_e, rq2_e, n_iRng1m, n_iRng2m, n_eSl, n_oNone, n_oSome, n_eMeth, n_eRev, apQ_e, n_sAppend, n_sAug, n_fnM, n_ret, n_ask, n_dTuple, cif_t, cif_f, isB_bl, isI_int, optP_s, hasT,
 getS, setS, frzS, startE, slK, wipeE, put0, put1, put2, put3, q_add_i, q_add_s, q_add_t, q_add_l, q_sub, q_mul_i, q_mul_s, q_mod, q_neg, q_lt, q_le, q_gt, q_ge, q_eq_i, q_ne_i, q_eq_s, q_ne_s, q_is_bb, q_is_bn, q_is_in, q_is_sn, q_is_tn, q_is_nn, q_isn_bb, q_isn_bn, q_isn_in, q_isn_sn, q_isn_tn, q_isn_nn,
 q_it_l, q_it_t, q_it_k, q_it_s, at0, at1, at2, at3, atm1_1, atm1_2, atm1_a, q_len_s, q_len_l, q_len_t, q_isi, q_int, q_str, ty_int, ty_str, ty_bl, ty_lst, ty_tup, ty_kt, ty_non, isiT, q_sl_s, q_sl_t, q_sl_l,
 n_iZipU, n_iEnU, eqU_l, zqU_ll, zqU_lt, zqU_ls, eqU_t, zqU_tl, zqU_tt, zqU_ts, eqU_s, zqU_sl, zqU_st, zqU_ss, eqU_k,
 List.map_cons, List.map_nil, List.length_cons, List.length_nil, List.cons_append, List.nil_append, List.append_nil, List.replicate_zero, List.replicate_succ, Nat.reduceAdd, Nat.reduceSub, Nat.reduceEqDiff, Nat.reduceLeDiff, Int.reduceAdd, Int.reduceSub, Int.reduceMul, Int.reduceMod, Int.reduceNeg, Int.reduceLT, Int.reduceLE, Int.reduceBEq, decide_true, decide_false, Bool.not_true, Bool.not_false, true_and, and_true, Nat.zero_add]
    refine tE_ok (e := stepE ⟨q, w⟩ 114) ?_ ?_ ?_ ?_ ?_ h <;> (rcases eight w0 w1 with rfl | rfl | rfl | rfl | rfl | rfl | rfl | rfl <;> simp [stepE, dlt, tau, q1, qadd, rotW, rotk, rot, cx, cy] <;> omega)
theorem sp_along_in {s : List Nat} (hs : s.all isPc = true) (hl : s.length ≤ 1000) (h : P (.lst ((trailE e0 s).map tD))) : m_along_in [.str s] P := by
  simp only [m_along_in, S_along_in, n_eVar, n_eVarB, varQ_fz, varB_fz, varB_ow, n_eC, n_eCall, n_aCons, n_aNil, n_eBin, n_eUn, n_eTup, n_eLst, n_eIf, n_eAnd, n_eOr, n_eNot, n_eChain, n_tVal, n_tNot, n_tAnd, n_tOr, n_tTrue,
 n_sSeq, n_sIf, n_sNil, n_sRet, n_sExpr, n_sBreak, n_sCont, n_sSet, n_sSetO, n_sSetZ, n_sFrz, n_sFor, n_gN, pq2_e, n_sPar, n_sParFG, n_sParGF, n_sParFF, n_sP3, n_sP4, n_eTupR, n_eLstR, n_eRevT, q_revT, n_sAsg, n_gTn_t, n_gTn_k, n_gsCons, n_gsNil, n_eLC, n_iSeq, n_seq_s, n_seq_l, n_seq_t, n_seq_k,
 rq1_e, rq2_e, n_iRng1m, n_iRng2m, n_eSl, n_oNone, n_oSome, n_eMeth, n_eRev, apQ_e, n_sAppend, n_sAug, n_fnM, n_ret, n_ask, n_dTuple, cif_t, cif_f, isB_bl, isI_int, optP_s, hasT,
 getS, setS, frzS, startE, slK, wipeE, put0, put1, put2, put3, q_add_i, q_add_s, q_add_t, q_add_l, q_sub, q_mul_i, q_mul_s, q_mod, q_neg, q_lt, q_le, q_gt, q_ge, q_eq_i, q_ne_i, q_eq_s, q_ne_s, q_is_bb, q_is_bn, q_is_in, q_is_sn, q_is_tn, q_is_nn, q_isn_bb, q_isn_bn, q_isn_in, q_isn_sn, q_isn_tn, q_isn_nn,
 q_it_l, q_it_t, q_it_k, q_it_s, at0, at1, at2, at3, atm1_1, atm1_2, atm1_a, q_len_s, q_len_l, q_len_t, q_isi, q_int, q_str, ty_int, ty_str, ty_bl, ty_lst, ty_tup, ty_kt, ty_non, isiT, q_sl_s, q_sl_t, q_sl_l,
 n_iZipU, n_iEnU, eqU_l, zqU_ll, zqU_lt, zqU_ls, eqU_t, zqU_tl, zqU_tt, zqU_ts, eqU_s, zqU_sl, zqU_st, zqU_ss, eqU_k,
 List.map_cons, List.map_nil, List.length_cons, List.length_nil, List.cons_append, List.nil_append, List.append_nil, List.replicate_zero, List.replicate_succ, Nat.reduceAdd, Nat.reduceSub, Nat.reduceEqDiff, Nat.reduceLeDiff, Int.reduceAdd, Int.reduceSub, Int.reduceMul, Int.reduceMod, Int.reduceNeg, Int.reduceLT, Int.reduceLE, Int.reduceBEq, decide_true, decide_false, Bool.not_true, Bool.not_false, true_and, and_true, Nat.zero_add]
  refine ⟨(show 2 ≤ lim by decide), (show 2 ≤ lim by decide), (show 3 ≤ lim by decide), (show 1 ≤ lim by decide), ?_⟩
  unfold signsD
  refine forW_ind (fun ds env => ∃ (done : List D) (q : E8) (rest : List Nat) (x : Sl), q.ok ∧ rest.all isPc = true ∧ done.length + rest.length ≤ 1000 ∧ ds = rest.map (fun c => .str [c]) ∧ env = [.fz (.str s), .ow (.lst (done ++ [tD q])), x] ∧ P (.lst (done ++ (trailE q rest).map tD))) ?_ ?_ _ _ ⟨[], e0, s, _, e0_ok, hs, by simpa using hl, rfl, rfl, h⟩
  · rintro env ⟨done, q, rest, x, h1, h2, h3, h4, rfl, h6⟩
    cases rest with
    | nil => exact h6
    | cons c r => cases h4
  · rintro d ds env K ⟨done, q, rest, x, h1, h2, h3, h4, rfl, h6⟩ hK
    cases rest with
    | nil => cases h4
    | cons c r =>
      cases h4
      rw [List.all_cons, Bool.and_eq_true] at h2
      simp only [n_eVar, n_eVarB, varQ_fz, varB_fz, varB_ow, n_eC, n_eCall, n_aCons, n_aNil, n_eBin, n_eUn, n_eTup, n_eLst, n_eIf, n_eAnd, n_eOr, n_eNot, n_eChain, n_tVal, n_tNot, n_tAnd, n_tOr, n_tTrue,
 n_sSeq, n_sIf, n_sNil, n_sRet, n_sExpr, n_sBreak, n_sCont, n_sSet, n_sSetO, n_sSetZ, n_sFrz, n_sFor, n_gN, pq2_e, n_sPar, n_sParFG, n_sParGF, n_sParFF, n_sP3, n_sP4, n_eTupR, n_eLstR, n_eRevT, q_revT, n_sAsg, n_gTn_t, n_gTn_k, n_gsCons, n_gsNil, n_eLC, n_iSeq, n_seq_s, n_seq_l, n_seq_t, n_seq_k,
 rq1_e, rq2_e, n_iRng1m, n_iRng2m, n_eSl, n_oNone, n_oSome, n_eMeth, n_eRev, apQ_e, n_sAppend, n_sAug, n_fnM, n_ret, n_ask, n_dTuple, cif_t, cif_f, isB_bl, isI_int, optP_s, hasT,
 getS, setS, frzS, startE, slK, wipeE, put0, put1, put2, put3, q_add_i, q_add_s, q_add_t, q_add_l, q_sub, q_mul_i, q_mul_s, q_mod, q_neg, q_lt, q_le, q_gt, q_ge, q_eq_i, q_ne_i, q_eq_s, q_ne_s, q_is_bb, q_is_bn, q_is_in, q_is_sn, q_is_tn, q_is_nn, q_isn_bb, q_isn_bn, q_isn_in, q_isn_sn, q_isn_tn, q_isn_nn,
 q_it_l, q_it_t, q_it_k, q_it_s, at0, at1, at2, at3, atm1_1, atm1_2, atm1_a, q_len_s, q_len_l, q_len_t, q_isi, q_int, q_str, ty_int, ty_str, ty_bl, ty_lst, ty_tup, ty_kt, ty_non, isiT, q_sl_s, q_sl_t, q_sl_l,
 n_iZipU, n_iEnU, eqU_l, zqU_ll, zqU_lt, zqU_ls, eqU_t, zqU_tl, zqU_tt, zqU_ts, eqU_s, zqU_sl, zqU_st, zqU_ss, eqU_k,
 List.map_cons, List.map_nil, List.length_cons, List.length_nil, List.cons_append, List.nil_append, List.append_nil, List.replicate_zero, List.replicate_succ, Nat.reduceAdd, Nat.reduceSub, Nat.reduceEqDiff, Nat.reduceLeDiff, Int.reduceAdd, Int.reduceSub, Int.reduceMul, Int.reduceMod, Int.reduceNeg, Int.reduceLT, Int.reduceLE, Int.reduceBEq, decide_true, decide_false, Bool.not_true, Bool.not_false, true_and, and_true, Nat.zero_add]
      refine sp_behind_in h1 h2.1 ⟨by simp [lim] at h3 ⊢; omega, hK _ ⟨done ++ [tD q], stepE q c, r, _, stepE_ok _ _, h2.2, by simp at h3 ⊢; omega, rfl, rfl, ?_⟩⟩
      rw [List.append_assoc]
      exact h6
theorem sp_law_times {q : Q4} {w : Int} (h : P (zD (rotW w q))) : m_law_times [zD q, .int w] P := by
  simp only [m_law_times, S_law_times, zD, n_eVar, n_eVarB, varQ_fz, varB_fz, varB_ow, n_eC, n_eCall, n_aCons, n_aNil, n_eBin, n_eUn, n_eTup, n_eLst, n_eIf, n_eAnd, n_eOr, n_eNot, n_eChain, n_tVal, n_tNot, n_tAnd, n_tOr, n_tTrue,
 n_sSeq, n_sIf, n_sNil, n_sRet, n_sExpr, n_sBreak, n_sCont, n_sSet, n_sSetO, n_sSetZ, n_sFrz, n_sFor, n_gN, pq2_e, n_sPar, n_sParFG, n_sParGF, n_sParFF, n_sP3, n_sP4, n_eTupR, n_eLstR, n_eRevT, q_revT, n_sAsg, n_gTn_t, n_gTn_k, n_gsCons, n_gsNil, n_eLC, n_iSeq, n_seq_s, n_seq_l, n_seq_t, n_seq_k,
 rq1_e, rq2_e, n_iRng1m, n_iRng2m, n_eSl, n_oNone, n_oSome, n_eMeth, n_eRev, apQ_e, n_sAppend, n_sAug, n_fnM, n_ret, n_ask, n_dTuple, cif_t, cif_f, isB_bl, isI_int, optP_s, hasT,
 getS, setS, frzS, startE, slK, wipeE, put0, put1, put2, put3, q_add_i, q_add_s, q_add_t, q_add_l, q_sub, q_mul_i, q_mul_s, q_mod, q_neg, q_lt, q_le, q_gt, q_ge, q_eq_i, q_ne_i, q_eq_s, q_ne_s, q_is_bb, q_is_bn, q_is_in, q_is_sn, q_is_tn, q_is_nn, q_isn_bb, q_isn_bn, q_isn_in, q_isn_sn, q_isn_tn, q_isn_nn,
 q_it_l, q_it_t, q_it_k, q_it_s, at0, at1, at2, at3, atm1_1, atm1_2, atm1_a, q_len_s, q_len_l, q_len_t, q_isi, q_int, q_str, ty_int, ty_str, ty_bl, ty_lst, ty_tup, ty_kt, ty_non, isiT, q_sl_s, q_sl_t, q_sl_l,
 n_iZipU, n_iEnU, eqU_l, zqU_ll, zqU_lt, zqU_ls, eqU_t, zqU_tl, zqU_tt, zqU_ts, eqU_s, zqU_sl, zqU_st, zqU_ss, eqU_k,
 List.map_cons, List.map_nil, List.length_cons, List.length_nil, List.cons_append, List.nil_append, List.append_nil, List.replicate_zero, List.replicate_succ, Nat.reduceAdd, Nat.reduceSub, Nat.reduceEqDiff, Nat.reduceLeDiff, Int.reduceAdd, Int.reduceSub, Int.reduceMul, Int.reduceMod, Int.reduceNeg, Int.reduceLT, Int.reduceLE, Int.reduceBEq, decide_true, decide_false, Bool.not_true, Bool.not_false, true_and, and_true, Nat.zero_add]
  show dList [.tup [.int q.a, .int q.b, .int q.c, .int q.d]] _
  have t0 := Int.emod_nonneg w (show (8 : Int) ≠ 0 by omega)
  have t1 := Int.emod_lt_of_pos w (show (0 : Int) < 8 by omega)
  refine (show ∀ Q : D → Prop, Q (.lst [.int q.a, .int q.b, .int q.c, .int q.d]) → dList [.tup [.int q.a, .int q.b, .int q.c, .int q.d]] Q from fun Q h => h) _ ?_
  refine ⟨by unfold far; omega, ?_⟩
  unfold rotW at h
  generalize (w % 8).toNat = n at h
  have key : ∀ (n : Nat) (k : Nat) (env : Env), (∃ x3, env = [.fz (.tup [.int q.a, .int q.b, .int q.c, .int q.d]), .fz (.int w), .fz (.lst [.int (rotk k q).a, .int (rotk k q).b, .int (rotk k q).c, .int (rotk k q).d]), x3]) → True := fun _ _ _ _ => trivial
  refine forW_ind (fun ds env => ∃ (k : Nat) (x3 : Sl), k + ds.length = n ∧ env = [.fz (.tup [.int q.a, .int q.b, .int q.c, .int q.d]), .fz (.int w), .fz (.lst [.int (rotk k q).a, .int (rotk k q).b, .int (rotk k q).c, .int (rotk k q).d]), x3]) ?_ ?_ _ _ ⟨0, _, by rw [rngD_len]; omega, rfl⟩
  · rintro env ⟨k, x3, hk, rfl⟩
    have hk' : k = n := by simpa using hk
    subst hk'
    exact h
  · rintro d ds env K ⟨k, x3, hk, rfl⟩ hK
    rw [List.length_cons] at hk
    simp only [n_eVar, n_eVarB, varQ_fz, varB_fz, varB_ow, n_eC, n_eCall, n_aCons, n_aNil, n_eBin, n_eUn, n_eTup, n_eLst, n_eIf, n_eAnd, n_eOr, n_eNot, n_eChain, n_tVal, n_tNot, n_tAnd, n_tOr, n_tTrue,
 n_sSeq, n_sIf, n_sNil, n_sRet, n_sExpr, n_sBreak, n_sCont, n_sSet, n_sSetO, n_sSetZ, n_sFrz, n_sFor, n_gN, pq2_e, n_sPar, n_sParFG, n_sParGF, n_sParFF, n_sP3, n_sP4, n_eTupR, n_eLstR, n_eRevT, q_revT, n_sAsg, n_gTn_t, n_gTn_k, n_gsCons, n_gsNil, n_eLC, n_iSeq, n_seq_s, n_seq_l, n_seq_t, n_seq_k,
 rq1_e, rq2_e, n_iRng1m, n_iRng2m, n_eSl, n_oNone, n_oSome, n_eMeth, n_eRev, apQ_e, n_sAppend, n_sAug, n_fnM, n_ret, n_ask, n_dTuple, cif_t, cif_f, isB_bl, isI_int, optP_s, hasT,
 getS, setS, frzS, startE, slK, wipeE, put0, put1, put2, put3, q_add_i, q_add_s, q_add_t, q_add_l, q_sub, q_mul_i, q_mul_s, q_mod, q_neg, q_lt, q_le, q_gt, q_ge, q_eq_i, q_ne_i, q_eq_s, q_ne_s, q_is_bb, q_is_bn, q_is_in, q_is_sn, q_is_tn, q_is_nn, q_isn_bb, q_isn_bn, q_isn_in, q_isn_sn, q_isn_tn, q_isn_nn,
 q_it_l, q_it_t, q_it_k, q_it_s, at0, at1, at2, at3, atm1_1, atm1_2, atm1_a, q_len_s, q_len_l, q_len_t, q_isi, q_int, q_str, ty_int, ty_str, ty_bl, ty_lst, ty_tup, ty_kt, ty_non, isiT, q_sl_s, q_sl_t, q_sl_l,
 n_iZipU, n_iEnU, eqU_l, zqU_ll, zqU_lt, zqU_ls, eqU_t, zqU_tl, zqU_tt, zqU_ts, eqU_s, zqU_sl, zqU_st, zqU_ss, eqU_k,
 List.map_cons, List.map_nil, List.length_cons, List.length_nil, List.cons_append, List.nil_append, List.append_nil, List.replicate_zero, List.replicate_succ, Nat.reduceAdd, Nat.reduceSub, Nat.reduceEqDiff, Nat.reduceLeDiff, Int.reduceAdd, Int.reduceSub, Int.reduceMul, Int.reduceMod, Int.reduceNeg, Int.reduceLT, Int.reduceLE, Int.reduceBEq, decide_true, decide_false, Bool.not_true, Bool.not_false, true_and, and_true, Nat.zero_add]
    refine ⟨(show 1 ≤ lim by decide), by unfold cutD plD; simp [lim], ?_⟩
    exact hK _ ⟨k + 1, _, by omega, rfl⟩
end L37
set_option Elab.async false
set_option linter.all false
set_option maxRecDepth 100000
set_option maxHeartbeats 2000000
namespace L37
open G
variable {P : D → Prop}
theorem n_iZipm {ms : Env → M (List D)} {env : Env} {PL : List D → Prop} : iZipm ms env PL = ms env (zq PL) := id rfl
theorem zq_t {xs ys : List D} {PL : List D → Prop} : zq PL [.tup xs, .tup ys] = PL (zipD xs ys) := id rfl
theorem zip4 {a b c d e f g h : D} : zipD [a, b, c, d] [e, f, g, h] = [.tup [a, e], .tup [b, f], .tup [c, g], .tup [d, h]] := rfl
theorem sp_law_add {p q : Q4} (h : P (zD (qadd p q))) : m_law_add [zD p, zD q] P := by
  simp (decide := true) only [m_law_add, S_law_add, zD, n_iZipm, zq_t, zip4, n_lcW0, n_lcW1, n_eVar, n_eVarB, varQ_fz, varB_fz, varB_ow, n_eC, n_eCall, n_aCons, n_aNil, n_eBin, n_eUn, n_eTup, n_eLst, n_eIf, n_eAnd, n_eOr, n_eNot, n_eChain, n_tVal, n_tNot, n_tAnd, n_tOr, n_tTrue,
 n_sSeq, n_sIf, n_sNil, n_sRet, n_sExpr, n_sBreak, n_sCont, n_sSet, n_sSetO, n_sSetZ, n_sFrz, n_sFor, n_gN, pq2_e, n_sPar, n_sParFG, n_sParGF, n_sParFF, n_sP3, n_sP4, n_eTupR, n_eLstR, n_eRevT, q_revT, n_sAsg, n_gTn_t, n_gTn_k, n_gsCons, n_gsNil, n_eLC, n_iSeq, n_seq_s, n_seq_l, n_seq_t, n_seq_k,
 rq1_e, rq2_e, n_iRng1m, n_iRng2m, n_eSl, n_oNone, n_oSome, n_eMeth, n_eRev, apQ_e, n_sAppend, n_sAug, n_fnM, n_ret, n_ask, n_dTuple, cif_t, cif_f, isB_bl, isI_int, optP_s, hasT,
 getS, setS, frzS, startE, slK, wipeE, put0, put1, put2, put3, q_add_i, q_add_s, q_add_t, q_add_l, q_sub, q_mul_i, q_mul_s, q_mod, q_neg, q_lt, q_le, q_gt, q_ge, q_eq_i, q_ne_i, q_eq_s, q_ne_s, q_is_bb, q_is_bn, q_is_in, q_is_sn, q_is_tn, q_is_nn, q_isn_bb, q_isn_bn, q_isn_in, q_isn_sn, q_isn_tn, q_isn_nn,
 q_it_l, q_it_t, q_it_k, q_it_s, at0, at1, at2, at3, atm1_1, atm1_2, atm1_a, q_len_s, q_len_l, q_len_t, q_isi, q_int, q_str, ty_int, ty_str, ty_bl, ty_lst, ty_tup, ty_kt, ty_non, isiT, q_sl_s, q_sl_t, q_sl_l,
 n_iZipU, n_iEnU, eqU_l, zqU_ll, zqU_lt, zqU_ls, eqU_t, zqU_tl, zqU_tt, zqU_ts, eqU_s, zqU_sl, zqU_st, zqU_ss, eqU_k,
 List.map_cons, List.map_nil, List.length_cons, List.length_nil, List.cons_append, List.nil_append, List.append_nil, List.replicate_zero, List.replicate_succ, Nat.reduceAdd, Nat.reduceSub, Nat.reduceEqDiff, Nat.reduceLeDiff, Int.reduceAdd, Int.reduceSub, Int.reduceMul, Int.reduceMod, Int.reduceNeg, Int.reduceLT, Int.reduceLE, Int.reduceBEq, decide_true, decide_false, Bool.not_true, Bool.not_false, true_and, and_true, Nat.zero_add]
  exact h
theorem z_one : D.tup [.int 1, .int 0, .int 0, .int 0] = zD q1 := rfl
theorem sp_law_step {e : E8} {c : Nat} (he : e.ok) (hc : isPc c = true) (h : P (lD (stepE e c))) : m_law_step [zD e.z, .int e.w, .str [c]] P := by
  obtain ⟨q, w⟩ := e
  obtain ⟨w0, w1⟩ := he
  simp only at w0 w1
  simp only [m_law_step, S_law_step, n_eVar, n_eVarB, varQ_fz, varB_fz, varB_ow, n_eC, n_eCall, n_aCons, n_aNil, n_eBin, n_eUn, n_eTup, n_eLst, n_eIf, n_eAnd, n_eOr, n_eNot, n_eChain, n_tVal, n_tNot, n_tAnd, n_tOr, n_tTrue,
 n_sSeq, n_sIf, n_sNil, n_sRet, n_sExpr, n_sBreak, n_sCont, n_sSet, n_sSetO, n_sSetZ, n_sFrz, n_sFor, n_gN, pq2_e, n_sPar, n_sParFG, n_sParGF, n_sParFF, n_sP3, n_sP4, n_eTupR, n_eLstR, n_eRevT, q_revT, n_sAsg, n_gTn_t, n_gTn_k, n_gsCons, n_gsNil, n_eLC, n_iSeq, n_seq_s, n_seq_l, n_seq_t, n_seq_k,
 rq1_e, rq2_e, n_iRng1m, n_iRng2m, n_eSl, n_oNone, n_oSome, n_eMeth, n_eRev, apQ_e, n_sAppend, n_sAug, n_fnM, n_ret, n_ask, n_dTuple, cif_t, cif_f, isB_bl, isI_int, optP_s, hasT,
 getS, setS, frzS, startE, slK, wipeE, put0, put1, put2, put3, q_add_i, q_add_s, q_add_t, q_add_l, q_sub, q_mul_i, q_mul_s, q_mod, q_neg, q_lt, q_le, q_gt, q_ge, q_eq_i, q_ne_i, q_eq_s, q_ne_s, q_is_bb, q_is_bn, q_is_in, q_is_sn, q_is_tn, q_is_nn, q_isn_bb, q_isn_bn, q_isn_in, q_isn_sn, q_isn_tn, q_isn_nn,
 q_it_l, q_it_t, q_it_k, q_it_s, at0, at1, at2, at3, atm1_1, atm1_2, atm1_a, q_len_s, q_len_l, q_len_t, q_isi, q_int, q_str, ty_int, ty_str, ty_bl, ty_lst, ty_tup, ty_kt, ty_non, isiT, q_sl_s, q_sl_t, q_sl_l,
 n_iZipU, n_iEnU, eqU_l, zqU_ll, zqU_lt, zqU_ls, eqU_t, zqU_tl, zqU_tt, zqU_ts, eqU_s, zqU_sl, zqU_st, zqU_ss, eqU_k,
 List.map_cons, List.map_nil, List.length_cons, List.length_nil, List.cons_append, List.nil_append, List.append_nil, List.replicate_zero, List.replicate_succ, Nat.reduceAdd, Nat.reduceSub, Nat.reduceEqDiff, Nat.reduceLeDiff, Int.reduceAdd, Int.reduceSub, Int.reduceMul, Int.reduceMod, Int.reduceNeg, Int.reduceLT, Int.reduceLE, Int.reduceBEq, decide_true, decide_false, Bool.not_true, Bool.not_false, true_and, and_true, Nat.zero_add]
  have tl : ∀ {Q : D → Prop} (v : Int), Q (zD (rotW v q1)) → m_law_times [.tup [.int 1, .int 0, .int 0, .int 0], .int v] Q := fun v hq => sp_law_times (q := q1) hq
  have fin : ∀ (p : Q4) (v : Int), qadd q p = (stepE ⟨q, w⟩ c).z → v = (stepE ⟨q, w⟩ c).w → m_law_add [zD q, zD p] fun d => 2 ≤ lim ∧ P (.tup [d, .int v]) := fun p v h1 h2 => sp_law_add ⟨(show 2 ≤ lim by decide), by rw [h1, h2]; exact h⟩
  rcases isPc_or hc with rfl | rfl | rfl
  · simp (decide := true) only [n_eVar, n_eVarB, varQ_fz, varB_fz, varB_ow, n_eC, n_eCall, n_aCons, n_aNil, n_eBin, n_eUn, n_eTup, n_eLst, n_eIf, n_eAnd, n_eOr, n_eNot, n_eChain, n_tVal, n_tNot, n_tAnd, n_tOr, n_tTrue,
 n_sSeq, n_sIf, n_sNil, n_sRet, n_sExpr, n_sBreak, n_sCont, n_sSet, n_sSetO, n_sSetZ, n_sFrz, n_sFor, n_gN, pq2_e, n_sPar, n_sParFG, n_sParGF, n_sParFF, n_sP3, n_sP4, n_eTupR, n_eLstR, n_eRevT, q_revT, n_sAsg, n_gTn_t, n_gTn_k, n_gsCons, n_gsNil, n_eLC, n_iSeq, n_seq_s, n_seq_l, n_seq_t, n_seq_k,
 rq1_e, rq2_e, n_iRng1m, n_iRng2m, n_eSl, n_oNone, n_oSome, n_eMeth, n_eRev, apQ_e, n_sAppend, n_sAug, n_fnM, n_ret, n_ask, n_dTuple, cif_t, cif_f, isB_bl, isI_int, optP_s, hasT,
 getS, setS, frzS, startE, slK, wipeE, put0, put1, put2, put3, q_add_i, q_add_s, q_add_t, q_add_l, q_sub, q_mul_i, q_mul_s, q_mod, q_neg, q_lt, q_le, q_gt, q_ge, q_eq_i, q_ne_i, q_eq_s, q_ne_s, q_is_bb, q_is_bn, q_is_in, q_is_sn, q_is_tn, q_is_nn, q_isn_bb, q_isn_bn, q_isn_in, q_isn_sn, q_isn_tn, q_isn_nn,
 q_it_l, q_it_t, q_it_k, q_it_s, at0, at1, at2, at3, atm1_1, atm1_2, atm1_a, q_len_s, q_len_l, q_len_t, q_isi, q_int, q_str, ty_int, ty_str, ty_bl, ty_lst, ty_tup, ty_kt, ty_non, isiT, q_sl_s, q_sl_t, q_sl_l,
 n_iZipU, n_iEnU, eqU_l, zqU_ll, zqU_lt, zqU_ls, eqU_t, zqU_tl, zqU_tt, zqU_ts, eqU_s, zqU_sl, zqU_st, zqU_ss, eqU_k,
 List.map_cons, List.map_nil, List.length_cons, List.length_nil, List.cons_append, List.nil_append, List.append_nil, List.replicate_zero, List.replicate_succ, Nat.reduceAdd, Nat.reduceSub, Nat.reduceEqDiff, Nat.reduceLeDiff, Int.reduceAdd, Int.reduceSub, Int.reduceMul, Int.reduceMod, Int.reduceNeg, Int.reduceLT, Int.reduceLE, Int.reduceBEq, decide_true, decide_false, Bool.not_true, Bool.not_false, true_and, and_true, Nat.zero_add]
    refine tl _ ?_
    refine sp_law_add ?_
    have e : D.tup [zD (qadd q (rotW w q1)), .int w] = lD (stepE ⟨q, w⟩ 115) := by
      unfold lD
      rw [show (stepE ⟨q, w⟩ 115).w = w by show (w + tau 115) % 8 = w; simp [tau]; omega]
      rfl
    rw [e]
    exact h
  · simp (decide := true) only [n_eVar, n_eVarB, varQ_fz, varB_fz, varB_ow, n_eC, n_eCall, n_aCons, n_aNil, n_eBin, n_eUn, n_eTup, n_eLst, n_eIf, n_eAnd, n_eOr, n_eNot, n_eChain, n_tVal, n_tNot, n_tAnd, n_tOr, n_tTrue,
 n_sSeq, n_sIf, n_sNil, n_sRet, n_sExpr, n_sBreak, n_sCont, n_sSet, n_sSetO, n_sSetZ, n_sFrz, n_sFor, n_gN, pq2_e, n_sPar, n_sParFG, n_sParGF, n_sParFF, n_sP3, n_sP4, n_eTupR, n_eLstR, n_eRevT, q_revT, n_sAsg, n_gTn_t, n_gTn_k, n_gsCons, n_gsNil, n_eLC, n_iSeq, n_seq_s, n_seq_l, n_seq_t, n_seq_k,
 rq1_e, rq2_e, n_iRng1m, n_iRng2m, n_eSl, n_oNone, n_oSome, n_eMeth, n_eRev, apQ_e, n_sAppend, n_sAug, n_fnM, n_ret, n_ask, n_dTuple, cif_t, cif_f, isB_bl, isI_int, optP_s, hasT,
 getS, setS, frzS, startE, slK, wipeE, put0, put1, put2, put3, q_add_i, q_add_s, q_add_t, q_add_l, q_sub, q_mul_i, q_mul_s, q_mod, q_neg, q_lt, q_le, q_gt, q_ge, q_eq_i, q_ne_i, q_eq_s, q_ne_s, q_is_bb, q_is_bn, q_is_in, q_is_sn, q_is_tn, q_is_nn, q_isn_bb, q_isn_bn, q_isn_in, q_isn_sn, q_isn_tn, q_isn_nn,
 q_it_l, q_it_t, q_it_k, q_it_s, at0, at1, at2, at3, atm1_1, atm1_2, atm1_a, q_len_s, q_len_l, q_len_t, q_isi, q_int, q_str, ty_int, ty_str, ty_bl, ty_lst, ty_tup, ty_kt, ty_non, isiT, q_sl_s, q_sl_t, q_sl_l,
 n_iZipU, n_iEnU, eqU_l, zqU_ll, zqU_lt, zqU_ls, eqU_t, zqU_tl, zqU_tt, zqU_ts, eqU_s, zqU_sl, zqU_st, zqU_ss, eqU_k,
 List.map_cons, List.map_nil, List.length_cons, List.length_nil, List.cons_append, List.nil_append, List.append_nil, List.replicate_zero, List.replicate_succ, Nat.reduceAdd, Nat.reduceSub, Nat.reduceEqDiff, Nat.reduceLeDiff, Int.reduceAdd, Int.reduceSub, Int.reduceMul, Int.reduceMod, Int.reduceNeg, Int.reduceLT, Int.reduceLE, Int.reduceBEq, decide_true, decide_false, Bool.not_true, Bool.not_false, true_and, and_true, Nat.zero_add]
    refine tl _ ⟨.inl (by unfold small; omega), tl _ (sp_law_add ?_)⟩
    try simp (decide := true) only [n_eVar, n_eVarB, varQ_fz, varB_fz, varB_ow, n_eC, n_eCall, n_aCons, n_aNil, n_eBin, n_eUn, n_eTup, n_eLst, n_eIf, n_eAnd, n_eOr, n_eNot, n_eChain, n_tVal, n_tNot, n_tAnd, n_tOr, n_tTrue,
 n_sSeq, n_sIf, n_sNil, n_sRet, n_sExpr, n_sBreak, n_sCont, n_sSet, n_sSetO, n_sSetZ, n_sFrz, n_sFor, n_gN, pq2_e, n_sPar, n_sParFG, n_sParGF, n_sParFF, n_sP3, n_sP4, n_eTupR, n_eLstR, n_eRevT, q_revT, n_sAsg, n_gTn_t, n_gTn_k, n_gsCons, n_gsNil, n_eLC, n_iSeq, n_seq_s, n_seq_l, n_seq_t, n_seq_k,
 rq1_e, rq2_e, n_iRng1m, n_iRng2m, n_eSl, n_oNone, n_oSome, n_eMeth, n_eRev, apQ_e, n_sAppend, n_sAug, n_fnM, n_ret, n_ask, n_dTuple, cif_t, cif_f, isB_bl, isI_int, optP_s, hasT,
 getS, setS, frzS, startE, slK, wipeE, put0, put1, put2, put3, q_add_i, q_add_s, q_add_t, q_add_l, q_sub, q_mul_i, q_mul_s, q_mod, q_neg, q_lt, q_le, q_gt, q_ge, q_eq_i, q_ne_i, q_eq_s, q_ne_s, q_is_bb, q_is_bn, q_is_in, q_is_sn, q_is_tn, q_is_nn, q_isn_bb, q_isn_bn, q_isn_in, q_isn_sn, q_isn_tn, q_isn_nn,
 q_it_l, q_it_t, q_it_k, q_it_s, at0, at1, at2, at3, atm1_1, atm1_2, atm1_a, q_len_s, q_len_l, q_len_t, q_isi, q_int, q_str, ty_int, ty_str, ty_bl, ty_lst, ty_tup, ty_kt, ty_non, isiT, q_sl_s, q_sl_t, q_sl_l,
 n_iZipU, n_iEnU, eqU_l, zqU_ll, zqU_lt, zqU_ls, eqU_t, zqU_tl, zqU_tt, zqU_ts, eqU_s, zqU_sl, zqU_st, zqU_ss, eqU_k,
 List.map_cons, List.map_nil, List.length_cons, List.length_nil, List.cons_append, List.nil_append, List.append_nil, List.replicate_zero, List.replicate_succ, Nat.reduceAdd, Nat.reduceSub, Nat.reduceEqDiff, Nat.reduceLeDiff, Int.reduceAdd, Int.reduceSub, Int.reduceMul, Int.reduceMod, Int.reduceNeg, Int.reduceLT, Int.reduceLE, Int.reduceBEq, decide_true, decide_false, Bool.not_true, Bool.not_false, true_and, and_true, Nat.zero_add]
    refine sp_law_add ?_
    have e : D.tup [zD (qadd q (qadd (rotW (w - 1) q1) (rotW (w - 2 + 4) q1))), .int ((w + 1) % 8)] = lD (stepE ⟨q, w⟩ 108) := by
      unfold lD
      congr 2
      show zD _ = zD (qadd q (rotW w (dlt 108)))
      congr 2
      rcases eight w0 w1 with rfl | rfl | rfl | rfl | rfl | rfl | rfl | rfl <;> rfl
    rw [e]
    exact h
  · simp (decide := true) only [n_eVar, n_eVarB, varQ_fz, varB_fz, varB_ow, n_eC, n_eCall, n_aCons, n_aNil, n_eBin, n_eUn, n_eTup, n_eLst, n_eIf, n_eAnd, n_eOr, n_eNot, n_eChain, n_tVal, n_tNot, n_tAnd, n_tOr, n_tTrue,
 n_sSeq, n_sIf, n_sNil, n_sRet, n_sExpr, n_sBreak, n_sCont, n_sSet, n_sSetO, n_sSetZ, n_sFrz, n_sFor, n_gN, pq2_e, n_sPar, n_sParFG, n_sParGF, n_sParFF, n_sP3, n_sP4, n_eTupR, n_eLstR, n_eRevT, q_revT, n_sAsg, n_gTn_t, n_gTn_k, n_gsCons, n_gsNil, n_eLC, n_iSeq, n_seq_s, n_seq_l, n_seq_t, n_seq_k,
 rq1_e, rq2_e, n_iRng1m, n_iRng2m, n_eSl, n_oNone, n_oSome, n_eMeth, n_eRev, apQ_e, n_sAppend, n_sAug, n_fnM, n_ret, n_ask, n_dTuple, cif_t, cif_f, isB_bl, isI_int, optP_s, hasT,
 getS, setS, frzS, startE, slK, wipeE, put0, put1, put2, put3, q_add_i, q_add_s, q_add_t, q_add_l, q_sub, q_mul_i, q_mul_s, q_mod, q_neg, q_lt, q_le, q_gt, q_ge, q_eq_i, q_ne_i, q_eq_s, q_ne_s, q_is_bb, q_is_bn, q_is_in, q_is_sn, q_is_tn, q_is_nn, q_isn_bb, q_isn_bn, q_isn_in, q_isn_sn, q_isn_tn, q_isn_nn,
 q_it_l, q_it_t, q_it_k, q_it_s, at0, at1, at2, at3, atm1_1, atm1_2, atm1_a, q_len_s, q_len_l, q_len_t, q_isi, q_int, q_str, ty_int, ty_str, ty_bl, ty_lst, ty_tup, ty_kt, ty_non, isiT, q_sl_s, q_sl_t, q_sl_l,
 n_iZipU, n_iEnU, eqU_l, zqU_ll, zqU_lt, zqU_ls, eqU_t, zqU_tl, zqU_tt, zqU_ts, eqU_s, zqU_sl, zqU_st, zqU_ss, eqU_k,
 List.map_cons, List.map_nil, List.length_cons, List.length_nil, List.cons_append, List.nil_append, List.append_nil, List.replicate_zero, List.replicate_succ, Nat.reduceAdd, Nat.reduceSub, Nat.reduceEqDiff, Nat.reduceLeDiff, Int.reduceAdd, Int.reduceSub, Int.reduceMul, Int.reduceMod, Int.reduceNeg, Int.reduceLT, Int.reduceLE, Int.reduceBEq, decide_true, decide_false, Bool.not_true, Bool.not_false, true_and, and_true, Nat.zero_add]
    refine tl _ ⟨.inl (by unfold small; omega), tl _ (sp_law_add ?_)⟩
    try simp (decide := true) only [n_eVar, n_eVarB, varQ_fz, varB_fz, varB_ow, n_eC, n_eCall, n_aCons, n_aNil, n_eBin, n_eUn, n_eTup, n_eLst, n_eIf, n_eAnd, n_eOr, n_eNot, n_eChain, n_tVal, n_tNot, n_tAnd, n_tOr, n_tTrue,
 n_sSeq, n_sIf, n_sNil, n_sRet, n_sExpr, n_sBreak, n_sCont, n_sSet, n_sSetO, n_sSetZ, n_sFrz, n_sFor, n_gN, pq2_e, n_sPar, n_sParFG, n_sParGF, n_sParFF, n_sP3, n_sP4, n_eTupR, n_eLstR, n_eRevT, q_revT, n_sAsg, n_gTn_t, n_gTn_k, n_gsCons, n_gsNil, n_eLC, n_iSeq, n_seq_s, n_seq_l, n_seq_t, n_seq_k,
 rq1_e, rq2_e, n_iRng1m, n_iRng2m, n_eSl, n_oNone, n_oSome, n_eMeth, n_eRev, apQ_e, n_sAppend, n_sAug, n_fnM, n_ret, n_ask, n_dTuple, cif_t, cif_f, isB_bl, isI_int, optP_s, hasT,
 getS, setS, frzS, startE, slK, wipeE, put0, put1, put2, put3, q_add_i, q_add_s, q_add_t, q_add_l, q_sub, q_mul_i, q_mul_s, q_mod, q_neg, q_lt, q_le, q_gt, q_ge, q_eq_i, q_ne_i, q_eq_s, q_ne_s, q_is_bb, q_is_bn, q_is_in, q_is_sn, q_is_tn, q_is_nn, q_isn_bb, q_isn_bn, q_isn_in, q_isn_sn, q_isn_tn, q_isn_nn,
 q_it_l, q_it_t, q_it_k, q_it_s, at0, at1, at2, at3, atm1_1, atm1_2, atm1_a, q_len_s, q_len_l, q_len_t, q_isi, q_int, q_str, ty_int, ty_str, ty_bl, ty_lst, ty_tup, ty_kt, ty_non, isiT, q_sl_s, q_sl_t, q_sl_l,
 n_iZipU, n_iEnU, eqU_l, zqU_ll, zqU_lt, zqU_ls, eqU_t, zqU_tl, zqU_tt, zqU_ts, eqU_s, zqU_sl, zqU_st, zqU_ss, eqU_k,
 List.map_cons, List.map_nil, List.length_cons, List.length_nil, List.cons_append, List.nil_append, List.append_nil, List.replicate_zero, List.replicate_succ, Nat.reduceAdd, Nat.reduceSub, Nat.reduceEqDiff, Nat.reduceLeDiff, Int.reduceAdd, Int.reduceSub, Int.reduceMul, Int.reduceMod, Int.reduceNeg, Int.reduceLT, Int.reduceLE, Int.reduceBEq, decide_true, decide_false, Bool.not_true, Bool.not_false, true_and, and_true, Nat.zero_add]
    refine sp_law_add ?_
    have e : D.tup [zD (qadd q (qadd (rotW (w - -1) q1) (rotW (w - -2 + 4) q1))), .int ((w + -1) % 8)] = lD (stepE ⟨q, w⟩ 114) := by
      unfold lD
      congr 2
      show zD _ = zD (qadd q (rotW w (dlt 114)))
      congr 2
      rcases eight w0 w1 with rfl | rfl | rfl | rfl | rfl | rfl | rfl | rfl <;> rfl
    rw [e]
    exact h
theorem sp_law_told_of {e : E8} (h : P (tD e)) : m_law_told_of [zD e.z, .int e.w] P := by
  simp (decide := true) only [m_law_told_of, S_law_told_of, zD, n_eVar, n_eVarB, varQ_fz, varB_fz, varB_ow, n_eC, n_eCall, n_aCons, n_aNil, n_eBin, n_eUn, n_eTup, n_eLst, n_eIf, n_eAnd, n_eOr, n_eNot, n_eChain, n_tVal, n_tNot, n_tAnd, n_tOr, n_tTrue,
 n_sSeq, n_sIf, n_sNil, n_sRet, n_sExpr, n_sBreak, n_sCont, n_sSet, n_sSetO, n_sSetZ, n_sFrz, n_sFor, n_gN, pq2_e, n_sPar, n_sParFG, n_sParGF, n_sParFF, n_sP3, n_sP4, n_eTupR, n_eLstR, n_eRevT, q_revT, n_sAsg, n_gTn_t, n_gTn_k, n_gsCons, n_gsNil, n_eLC, n_iSeq, n_seq_s, n_seq_l, n_seq_t, n_seq_k,
 rq1_e, rq2_e, n_iRng1m, n_iRng2m, n_eSl, n_oNone, n_oSome, n_eMeth, n_eRev, apQ_e, n_sAppend, n_sAug, n_fnM, n_ret, n_ask, n_dTuple, cif_t, cif_f, isB_bl, isI_int, optP_s, hasT,
 getS, setS, frzS, startE, slK, wipeE, put0, put1, put2, put3, q_add_i, q_add_s, q_add_t, q_add_l, q_sub, q_mul_i, q_mul_s, q_mod, q_neg, q_lt, q_le, q_gt, q_ge, q_eq_i, q_ne_i, q_eq_s, q_ne_s, q_is_bb, q_is_bn, q_is_in, q_is_sn, q_is_tn, q_is_nn, q_isn_bb, q_isn_bn, q_isn_in, q_isn_sn, q_isn_tn, q_isn_nn,
 q_it_l, q_it_t, q_it_k, q_it_s, at0, at1, at2, at3, atm1_1, atm1_2, atm1_a, q_len_s, q_len_l, q_len_t, q_isi, q_int, q_str, ty_int, ty_str, ty_bl, ty_lst, ty_tup, ty_kt, ty_non, isiT, q_sl_s, q_sl_t, q_sl_l,
 n_iZipU, n_iEnU, eqU_l, zqU_ll, zqU_lt, zqU_ls, eqU_t, zqU_tl, zqU_tt, zqU_ts, eqU_s, zqU_sl, zqU_st, zqU_ss, eqU_k,
 List.map_cons, List.map_nil, List.length_cons, List.length_nil, List.cons_append, List.nil_append, List.append_nil, List.replicate_zero, List.replicate_succ, Nat.reduceAdd, Nat.reduceSub, Nat.reduceEqDiff, Nat.reduceLeDiff, Int.reduceAdd, Int.reduceSub, Int.reduceMul, Int.reduceMod, Int.reduceNeg, Int.reduceLT, Int.reduceLE, Int.reduceBEq, decide_true, decide_false, Bool.not_true, Bool.not_false, true_and, and_true, Nat.zero_add]
  refine ⟨.inl (by unfold small; omega), .inl (by unfold small; omega), ?_⟩
  exact h
theorem sp_law_trail {s : List Nat} (hs : s.all isPc = true) (hl : s.length ≤ 1000) (h : P (.lst ((trailE e0 s).map lD))) : m_law_trail [.str s] P := by
  simp (decide := true) only [m_law_trail, S_law_trail, n_eVar, n_eVarB, varQ_fz, varB_fz, varB_ow, n_eC, n_eCall, n_aCons, n_aNil, n_eBin, n_eUn, n_eTup, n_eLst, n_eIf, n_eAnd, n_eOr, n_eNot, n_eChain, n_tVal, n_tNot, n_tAnd, n_tOr, n_tTrue,
 n_sSeq, n_sIf, n_sNil, n_sRet, n_sExpr, n_sBreak, n_sCont, n_sSet, n_sSetO, n_sSetZ, n_sFrz, n_sFor, n_gN, pq2_e, n_sPar, n_sParFG, n_sParGF, n_sParFF, n_sP3, n_sP4, n_eTupR, n_eLstR, n_eRevT, q_revT, n_sAsg, n_gTn_t, n_gTn_k, n_gsCons, n_gsNil, n_eLC, n_iSeq, n_seq_s, n_seq_l, n_seq_t, n_seq_k,
 rq1_e, rq2_e, n_iRng1m, n_iRng2m, n_eSl, n_oNone, n_oSome, n_eMeth, n_eRev, apQ_e, n_sAppend, n_sAug, n_fnM, n_ret, n_ask, n_dTuple, cif_t, cif_f, isB_bl, isI_int, optP_s, hasT,
 getS, setS, frzS, startE, slK, wipeE, put0, put1, put2, put3, q_add_i, q_add_s, q_add_t, q_add_l, q_sub, q_mul_i, q_mul_s, q_mod, q_neg, q_lt, q_le, q_gt, q_ge, q_eq_i, q_ne_i, q_eq_s, q_ne_s, q_is_bb, q_is_bn, q_is_in, q_is_sn, q_is_tn, q_is_nn, q_isn_bb, q_isn_bn, q_isn_in, q_isn_sn, q_isn_tn, q_isn_nn,
 q_it_l, q_it_t, q_it_k, q_it_s, at0, at1, at2, at3, atm1_1, atm1_2, atm1_a, q_len_s, q_len_l, q_len_t, q_isi, q_int, q_str, ty_int, ty_str, ty_bl, ty_lst, ty_tup, ty_kt, ty_non, isiT, q_sl_s, q_sl_t, q_sl_l,
 n_iZipU, n_iEnU, eqU_l, zqU_ll, zqU_lt, zqU_ls, eqU_t, zqU_tl, zqU_tt, zqU_ts, eqU_s, zqU_sl, zqU_st, zqU_ss, eqU_k,
 List.map_cons, List.map_nil, List.length_cons, List.length_nil, List.cons_append, List.nil_append, List.append_nil, List.replicate_zero, List.replicate_succ, Nat.reduceAdd, Nat.reduceSub, Nat.reduceEqDiff, Nat.reduceLeDiff, Int.reduceAdd, Int.reduceSub, Int.reduceMul, Int.reduceMod, Int.reduceNeg, Int.reduceLT, Int.reduceLE, Int.reduceBEq, decide_true, decide_false, Bool.not_true, Bool.not_false, true_and, and_true, Nat.zero_add]
  unfold signsD
  refine forW_ind (fun ds env => ∃ (done : List D) (q : E8) (rest : List Nat) (x : Sl), q.ok ∧ rest.all isPc = true ∧ done.length + rest.length ≤ 1000 ∧ ds = rest.map (fun c => .str [c]) ∧ env = [.fz (.str s), .ow (.lst (done ++ [lD q])), x] ∧ P (.lst (done ++ (trailE q rest).map lD))) ?_ ?_ _ _ ⟨[], e0, s, _, e0_ok, hs, by simpa using hl, rfl, rfl, h⟩
  · rintro env ⟨done, q, rest, x, h1, h2, h3, h4, rfl, h6⟩
    cases rest with
    | nil => exact h6
    | cons c r => cases h4
  · rintro d ds env K ⟨done, q, rest, x, h1, h2, h3, h4, rfl, h6⟩ hK
    cases rest with
    | nil => cases h4
    | cons c r =>
      cases h4
      rw [List.all_cons, Bool.and_eq_true] at h2
      have l0 : ∀ {Q : D → Prop}, dItem (lD q) (.int 0) Q = Q (zD q.z) := by intro Q; rw [lD, q_it_t, at0, optP_s]
      have l1 : ∀ {Q : D → Prop}, dItem (lD q) (.int 1) Q = Q (.int q.w) := by intro Q; rw [lD, q_it_t, at1, optP_s]
      simp only [n_eVar, n_eVarB, varQ_fz, varB_fz, varB_ow, n_eC, n_eCall, n_aCons, n_aNil, n_eBin, n_eUn, n_eTup, n_eLst, n_eIf, n_eAnd, n_eOr, n_eNot, n_eChain, n_tVal, n_tNot, n_tAnd, n_tOr, n_tTrue,
 n_sSeq, n_sIf, n_sNil, n_sRet, n_sExpr, n_sBreak, n_sCont, n_sSet, n_sSetO, n_sSetZ, n_sFrz, n_sFor, n_gN, pq2_e, n_sPar, n_sParFG, n_sParGF, n_sParFF, n_sP3, n_sP4, n_eTupR, n_eLstR, n_eRevT, q_revT, n_sAsg, n_gTn_t, n_gTn_k, n_gsCons, n_gsNil, n_eLC, n_iSeq, n_seq_s, n_seq_l, n_seq_t, n_seq_k,
 rq1_e, rq2_e, n_iRng1m, n_iRng2m, n_eSl, n_oNone, n_oSome, n_eMeth, n_eRev, apQ_e, n_sAppend, n_sAug, n_fnM, n_ret, n_ask, n_dTuple, cif_t, cif_f, isB_bl, isI_int, optP_s, hasT,
 getS, setS, frzS, startE, slK, wipeE, put0, put1, put2, put3, q_add_i, q_add_s, q_add_t, q_add_l, q_sub, q_mul_i, q_mul_s, q_mod, q_neg, q_lt, q_le, q_gt, q_ge, q_eq_i, q_ne_i, q_eq_s, q_ne_s, q_is_bb, q_is_bn, q_is_in, q_is_sn, q_is_tn, q_is_nn, q_isn_bb, q_isn_bn, q_isn_in, q_isn_sn, q_isn_tn, q_isn_nn,
 q_it_l, q_it_t, q_it_k, q_it_s, at0, at1, at2, at3, atm1_1, atm1_2, atm1_a, q_len_s, q_len_l, q_len_t, q_isi, q_int, q_str, ty_int, ty_str, ty_bl, ty_lst, ty_tup, ty_kt, ty_non, isiT, q_sl_s, q_sl_t, q_sl_l,
 n_iZipU, n_iEnU, eqU_l, zqU_ll, zqU_lt, zqU_ls, eqU_t, zqU_tl, zqU_tt, zqU_ts, eqU_s, zqU_sl, zqU_st, zqU_ss, eqU_k,
 List.map_cons, List.map_nil, List.length_cons, List.length_nil, List.cons_append, List.nil_append, List.append_nil, List.replicate_zero, List.replicate_succ, Nat.reduceAdd, Nat.reduceSub, Nat.reduceEqDiff, Nat.reduceLeDiff, Int.reduceAdd, Int.reduceSub, Int.reduceMul, Int.reduceMod, Int.reduceNeg, Int.reduceLT, Int.reduceLE, Int.reduceBEq, decide_true, decide_false, Bool.not_true, Bool.not_false, true_and, and_true, Nat.zero_add, l0, l1]
      refine sp_law_step h1 h2.1 ⟨by simp [lim] at h3 ⊢; omega, hK _ ⟨done ++ [lD q], stepE q c, r, _, stepE_ok _ _, h2.2, by simp at h3 ⊢; omega, rfl, rfl, ?_⟩⟩
      rw [List.append_assoc]
      exact h6
def isE (s : List Nat) : Bool := decide (s.length ≤ 120) && s.all isPc
theorem sp_fits_eighths_str {s : List Nat} (hl : s.length ≤ lim) (h : P (.bl (isE s))) : m_fits_eighths [.str s] P := by
  simp only [fnM, m_fits_eighths, S_fits_eighths, c_LONG, sSeq, sRet, sSet, sSetO, sSetZ, sAsg, sIf, sNil, sFrz, frzS, sExpr, sFor, sAppend, sPar, sPar3, sParFG, sParGF, sParFF, sPut, sAug, sExt, sBreak, sCont, sStuck,
 eCall, aCons, aNil, eVar, eVarB, eC, eBin, eUn, eAnd, eOr, eNot, eIf, eChain, tVal, tAnd, tOr, tNot, tTrue, eTup, eLst, eMeth, hasT, eSl, oNone, oSome, eRev, eLC, wipeE,
 startE, getS, setS, iSeq, iRng1m, iRng2m, ret, ask, stuck, isNon, gN, gTn, gsCons, gsNil, q_sl_s, q_sl_t, q_sl_l, dTuple, dList,
 put0, put1, put2, put3, optP_s, q_add_i, q_add_s, q_add_t, q_add_l, q_sub, q_mul_i, q_mul_s, q_mod, q_neg, q_lt, q_le, q_gt, q_ge, q_eq_i, q_ne_i, q_eq_s, q_ne_s, q_is_bb, q_is_bn, q_is_in, q_is_sn, q_is_tn, q_is_nn, q_isn_bb, q_isn_bn, q_isn_in, q_isn_sn, q_isn_tn, q_isn_nn,
 q_it_l, q_it_t, q_it_k, q_it_s, at0, at1, at2, at3, atm1_1, atm1_2, atm1_a, q_len_s, q_len_l, q_len_t, q_isi, q_int, q_str, ty_int, ty_str, ty_bl, ty_lst, ty_tup, ty_kt, ty_non, isiT, isB_bl, isI_int, seq_s, seq_l, seq_t, seq_k, tyD,
 List.map_cons, List.map_nil, List.length_cons, List.length_nil, List.cons_append, List.nil_append, List.append_nil, List.replicate_zero, List.replicate_succ, Nat.reduceAdd, Nat.reduceSub, Nat.reduceEqDiff, Nat.reduceLeDiff, Int.reduceAdd, Int.reduceSub, Int.reduceMul, Int.reduceMod, Int.reduceNeg, Int.reduceLT, Int.reduceLE, Int.reduceBEq, decide_true, decide_false, Bool.not_true, Bool.not_false, lim, true_and, and_true, Nat.zero_add]
  refine ⟨hl, ?_⟩
  have e : decide ((s.length : Int) ≤ 120) = decide (s.length ≤ 120) := by
    apply decide_eq_decide.mpr; omega
  rw [e]
  unfold isE at h
  cases e2 : decide (s.length ≤ 120)
  · rw [e2] at h; exact h
  · rw [e2] at h
    refine ⟨by rw [signsD, List.length_map]; exact hl, ?_⟩
    unfold signsD
    refine lc_map (fun d => match d with | .str s => .bl (s.all isPc) | _ => .non) _ (fun d hd K hK => ?_) ?_
    · obtain ⟨c, _, rfl⟩ := List.mem_map.mp hd
      show K (.bl (decide (c ∈ [115, 108, 114])))
      rw [show decide (c ∈ [115, 108, 114]) = [c].all isPc by
        rw [List.all_cons, List.all_nil, Bool.and_true]; unfold isPc; rw [Bool.eq_iff_iff]; simp]
      exact hK
    · rw [List.map_map, show ((fun d => match d with | D.str s => D.bl (s.all isPc) | _ => .non) ∘ fun c => D.str [c]) = D.bl ∘ isPc by funext c; simp, ← List.map_map, q_all (boolsD_map _), List.all_map]
      exact h
theorem isE_mk {s : List Nat} (h : s.length ≤ 120) (h2 : s.all isPc = true) : isE s = true := by unfold isE; rw [h2, decide_eq_true h]; rfl
theorem sp_need_eighths {s : List Nat} (hl : s.length ≤ 120) (hs : s.all isPc = true) (h : P .non) : m_need_eighths [.str s] P := by
  simp only [m_need_eighths, S_need_eighths, n_eVar, n_eVarB, varQ_fz, varB_fz, varB_ow, n_eC, n_eCall, n_aCons, n_aNil, n_eBin, n_eUn, n_eTup, n_eLst, n_eIf, n_eAnd, n_eOr, n_eNot, n_eChain, n_tVal, n_tNot, n_tAnd, n_tOr, n_tTrue,
 n_sSeq, n_sIf, n_sNil, n_sRet, n_sExpr, n_sBreak, n_sCont, n_sSet, n_sSetO, n_sSetZ, n_sFrz, n_sFor, n_gN, pq2_e, n_sPar, n_sParFG, n_sParGF, n_sParFF, n_sP3, n_sP4, n_eTupR, n_eLstR, n_eRevT, q_revT, n_sAsg, n_gTn_t, n_gTn_k, n_gsCons, n_gsNil, n_eLC, n_iSeq, n_seq_s, n_seq_l, n_seq_t, n_seq_k,
 rq1_e, rq2_e, n_iRng1m, n_iRng2m, n_eSl, n_oNone, n_oSome, n_eMeth, n_eRev, apQ_e, n_sAppend, n_sAug, n_fnM, n_ret, n_ask, n_dTuple, cif_t, cif_f, isB_bl, isI_int, optP_s, hasT,
 getS, setS, frzS, startE, slK, wipeE, put0, put1, put2, put3, q_add_i, q_add_s, q_add_t, q_add_l, q_sub, q_mul_i, q_mul_s, q_mod, q_neg, q_lt, q_le, q_gt, q_ge, q_eq_i, q_ne_i, q_eq_s, q_ne_s, q_is_bb, q_is_bn, q_is_in, q_is_sn, q_is_tn, q_is_nn, q_isn_bb, q_isn_bn, q_isn_in, q_isn_sn, q_isn_tn, q_isn_nn,
 q_it_l, q_it_t, q_it_k, q_it_s, at0, at1, at2, at3, atm1_1, atm1_2, atm1_a, q_len_s, q_len_l, q_len_t, q_isi, q_int, q_str, ty_int, ty_str, ty_bl, ty_lst, ty_tup, ty_kt, ty_non, isiT, q_sl_s, q_sl_t, q_sl_l,
 n_iZipU, n_iEnU, eqU_l, zqU_ll, zqU_lt, zqU_ls, eqU_t, zqU_tl, zqU_tt, zqU_ts, eqU_s, zqU_sl, zqU_st, zqU_ss, eqU_k,
 List.map_cons, List.map_nil, List.length_cons, List.length_nil, List.cons_append, List.nil_append, List.append_nil, List.replicate_zero, List.replicate_succ, Nat.reduceAdd, Nat.reduceSub, Nat.reduceEqDiff, Nat.reduceLeDiff, Int.reduceAdd, Int.reduceSub, Int.reduceMul, Int.reduceMod, Int.reduceNeg, Int.reduceLT, Int.reduceLE, Int.reduceBEq, decide_true, decide_false, Bool.not_true, Bool.not_false, true_and, and_true, Nat.zero_add]
  refine sp_fits_eighths_str (by simp only [lim]; omega) ?_
  rw [isE_mk hl hs]
  simp only [n_eVar, n_eVarB, varQ_fz, varB_fz, varB_ow, n_eC, n_eCall, n_aCons, n_aNil, n_eBin, n_eUn, n_eTup, n_eLst, n_eIf, n_eAnd, n_eOr, n_eNot, n_eChain, n_tVal, n_tNot, n_tAnd, n_tOr, n_tTrue,
 n_sSeq, n_sIf, n_sNil, n_sRet, n_sExpr, n_sBreak, n_sCont, n_sSet, n_sSetO, n_sSetZ, n_sFrz, n_sFor, n_gN, pq2_e, n_sPar, n_sParFG, n_sParGF, n_sParFF, n_sP3, n_sP4, n_eTupR, n_eLstR, n_eRevT, q_revT, n_sAsg, n_gTn_t, n_gTn_k, n_gsCons, n_gsNil, n_eLC, n_iSeq, n_seq_s, n_seq_l, n_seq_t, n_seq_k,
 rq1_e, rq2_e, n_iRng1m, n_iRng2m, n_eSl, n_oNone, n_oSome, n_eMeth, n_eRev, apQ_e, n_sAppend, n_sAug, n_fnM, n_ret, n_ask, n_dTuple, cif_t, cif_f, isB_bl, isI_int, optP_s, hasT,
 getS, setS, frzS, startE, slK, wipeE, put0, put1, put2, put3, q_add_i, q_add_s, q_add_t, q_add_l, q_sub, q_mul_i, q_mul_s, q_mod, q_neg, q_lt, q_le, q_gt, q_ge, q_eq_i, q_ne_i, q_eq_s, q_ne_s, q_is_bb, q_is_bn, q_is_in, q_is_sn, q_is_tn, q_is_nn, q_isn_bb, q_isn_bn, q_isn_in, q_isn_sn, q_isn_tn, q_isn_nn,
 q_it_l, q_it_t, q_it_k, q_it_s, at0, at1, at2, at3, atm1_1, atm1_2, atm1_a, q_len_s, q_len_l, q_len_t, q_isi, q_int, q_str, ty_int, ty_str, ty_bl, ty_lst, ty_tup, ty_kt, ty_non, isiT, q_sl_s, q_sl_t, q_sl_l,
 n_iZipU, n_iEnU, eqU_l, zqU_ll, zqU_lt, zqU_ls, eqU_t, zqU_tl, zqU_tt, zqU_ts, eqU_s, zqU_sl, zqU_st, zqU_ss, eqU_k,
 List.map_cons, List.map_nil, List.length_cons, List.length_nil, List.cons_append, List.nil_append, List.append_nil, List.replicate_zero, List.replicate_succ, Nat.reduceAdd, Nat.reduceSub, Nat.reduceEqDiff, Nat.reduceLeDiff, Int.reduceAdd, Int.reduceSub, Int.reduceMul, Int.reduceMod, Int.reduceNeg, Int.reduceLT, Int.reduceLE, Int.reduceBEq, decide_true, decide_false, Bool.not_true, Bool.not_false, true_and, and_true, Nat.zero_add]
  exact h
theorem tD_zero {e : E8} : decide (e = e0) = eqv (tD e) (.tup [.tup [.int 0, .int 0], .tup [.int 0, .int 0], .int 0]) := by
  obtain ⟨⟨a, b, c, d⟩, w⟩ := e
  rw [Bool.eq_iff_iff, decide_eq_true_eq]
  simp only [tD, eqv, eqvL, Bool.and_true, Bool.and_eq_true, beq_iff_eq]
  constructor
  · intro h; injection h with h1 h2; injection h1 with a1 a2 a3 a4; subst a1 a2 a3 a4 h2; simp
  · rintro ⟨⟨h1, h2⟩, ⟨h3, h4⟩, h5⟩
    have e1 : a = 0 := by omega
    have e2 : b = 0 := by omega
    have e3 : c = 0 := by omega
    have e4 : d = 0 := by omega
    subst e1 e2 e3 e4 h5
    rfl
end L37
set_option Elab.async false
set_option linter.all false
set_option maxRecDepth 100000
set_option maxHeartbeats 2000000
namespace L37
open G
variable {P : D → Prop}
abbrev nD (a b : Int) : D := .tup [.int a, .int b]
theorem sp_root_below {n : Int} (h0 : 0 ≤ n) (hn : n < 9223372036854775808) (h : ∀ r, isRt n r → P (.int r)) : m_root_below [.int n] P := by
  simp only [m_root_below, S_root_below, n_eVar, n_eVarB, varQ_fz, varB_fz, varB_ow, n_eC, n_eCall, n_aCons, n_aNil, n_eBin, n_eUn, n_eTup, n_eLst, n_eIf, n_eAnd, n_eOr, n_eNot, n_eChain, n_tVal, n_tNot, n_tAnd, n_tOr, n_tTrue,
 n_sSeq, n_sIf, n_sNil, n_sRet, n_sExpr, n_sBreak, n_sCont, n_sSet, n_sSetO, n_sSetZ, n_sFrz, n_sFor, n_gN, pq2_e, n_sPar, n_sParFG, n_sParGF, n_sParFF, n_sP3, n_sP4, n_eTupR, n_eLstR, n_eRevT, q_revT, n_sAsg, n_gTn_t, n_gTn_k, n_gsCons, n_gsNil, n_eLC, n_iSeq, n_seq_s, n_seq_l, n_seq_t, n_seq_k,
 rq1_e, rq2_e, n_iRng1m, n_iRng2m, n_eSl, n_oNone, n_oSome, n_eMeth, n_eRev, apQ_e, n_sAppend, n_sAug, n_fnM, n_ret, n_ask, n_dTuple, cif_t, cif_f, isB_bl, isI_int, optP_s, hasT,
 getS, setS, frzS, startE, slK, wipeE, put0, put1, put2, put3, q_add_i, q_add_s, q_add_t, q_add_l, q_sub, q_mul_i, q_mul_s, q_mod, q_neg, q_lt, q_le, q_gt, q_ge, q_eq_i, q_ne_i, q_eq_s, q_ne_s, q_is_bb, q_is_bn, q_is_in, q_is_sn, q_is_tn, q_is_nn, q_isn_bb, q_isn_bn, q_isn_in, q_isn_sn, q_isn_tn, q_isn_nn,
 q_it_l, q_it_t, q_it_k, q_it_s, at0, at1, at2, at3, atm1_1, atm1_2, atm1_a, q_len_s, q_len_l, q_len_t, q_isi, q_int, q_str, ty_int, ty_str, ty_bl, ty_lst, ty_tup, ty_kt, ty_non, isiT, q_sl_s, q_sl_t, q_sl_l,
 n_iZipU, n_iEnU, eqU_l, zqU_ll, zqU_lt, zqU_ls, eqU_t, zqU_tl, zqU_tt, zqU_ts, eqU_s, zqU_sl, zqU_st, zqU_ss, eqU_k,
 List.map_cons, List.map_nil, List.length_cons, List.length_nil, List.cons_append, List.nil_append, List.append_nil, List.replicate_zero, List.replicate_succ, Nat.reduceAdd, Nat.reduceSub, Nat.reduceEqDiff, Nat.reduceLeDiff, Int.reduceAdd, Int.reduceSub, Int.reduceMul, Int.reduceMod, Int.reduceNeg, Int.reduceLT, Int.reduceLE, Int.reduceBEq, decide_true, decide_false, Bool.not_true, Bool.not_false, true_and, and_true, Nat.zero_add]
  refine ⟨fun m env => ∃ (lo hi : Int) (x3 : Sl), env = [.fz (.int n), .fz (.int lo), .fz (.int hi), x3] ∧ 0 ≤ lo ∧ lo < hi ∧ lo * lo ≤ n ∧ n < hi * hi ∧ hi ≤ n + 1 ∧ m = (hi - lo).toNat, ⟨_, 0, n + 1, _, rfl, by omega, by omega, by omega, ?_, by omega, rfl⟩, ?_⟩
  · have := sq_nn n
    have e : (n + 1) * (n + 1) = n * n + 2 * n + 1 := by grind
    omega
  · rintro m env ⟨lo, hi, x3, rfl, a1, a2, a3, a4, a5, rfl⟩
    simp only [n_eVar, n_eVarB, varQ_fz, varB_fz, varB_ow, n_eC, n_eCall, n_aCons, n_aNil, n_eBin, n_eUn, n_eTup, n_eLst, n_eIf, n_eAnd, n_eOr, n_eNot, n_eChain, n_tVal, n_tNot, n_tAnd, n_tOr, n_tTrue,
 n_sSeq, n_sIf, n_sNil, n_sRet, n_sExpr, n_sBreak, n_sCont, n_sSet, n_sSetO, n_sSetZ, n_sFrz, n_sFor, n_gN, pq2_e, n_sPar, n_sParFG, n_sParGF, n_sParFF, n_sP3, n_sP4, n_eTupR, n_eLstR, n_eRevT, q_revT, n_sAsg, n_gTn_t, n_gTn_k, n_gsCons, n_gsNil, n_eLC, n_iSeq, n_seq_s, n_seq_l, n_seq_t, n_seq_k,
 rq1_e, rq2_e, n_iRng1m, n_iRng2m, n_eSl, n_oNone, n_oSome, n_eMeth, n_eRev, apQ_e, n_sAppend, n_sAug, n_fnM, n_ret, n_ask, n_dTuple, cif_t, cif_f, isB_bl, isI_int, optP_s, hasT,
 getS, setS, frzS, startE, slK, wipeE, put0, put1, put2, put3, q_add_i, q_add_s, q_add_t, q_add_l, q_sub, q_mul_i, q_mul_s, q_mod, q_neg, q_lt, q_le, q_gt, q_ge, q_eq_i, q_ne_i, q_eq_s, q_ne_s, q_is_bb, q_is_bn, q_is_in, q_is_sn, q_is_tn, q_is_nn, q_isn_bb, q_isn_bn, q_isn_in, q_isn_sn, q_isn_tn, q_isn_nn,
 q_it_l, q_it_t, q_it_k, q_it_s, at0, at1, at2, at3, atm1_1, atm1_2, atm1_a, q_len_s, q_len_l, q_len_t, q_isi, q_int, q_str, ty_int, ty_str, ty_bl, ty_lst, ty_tup, ty_kt, ty_non, isiT, q_sl_s, q_sl_t, q_sl_l,
 n_iZipU, n_iEnU, eqU_l, zqU_ll, zqU_lt, zqU_ls, eqU_t, zqU_tl, zqU_tt, zqU_ts, eqU_s, zqU_sl, zqU_st, zqU_ss, eqU_k,
 List.map_cons, List.map_nil, List.length_cons, List.length_nil, List.cons_append, List.nil_append, List.append_nil, List.replicate_zero, List.replicate_succ, Nat.reduceAdd, Nat.reduceSub, Nat.reduceEqDiff, Nat.reduceLeDiff, Int.reduceAdd, Int.reduceSub, Int.reduceMul, Int.reduceMod, Int.reduceNeg, Int.reduceLT, Int.reduceLE, Int.reduceBEq, decide_true, decide_false, Bool.not_true, Bool.not_false, true_and, and_true, Nat.zero_add]
    by_cases e : hi - lo > 1
    · rw [decide_eq_true e]
      simp only [n_eVar, n_eVarB, varQ_fz, varB_fz, varB_ow, n_eC, n_eCall, n_aCons, n_aNil, n_eBin, n_eUn, n_eTup, n_eLst, n_eIf, n_eAnd, n_eOr, n_eNot, n_eChain, n_tVal, n_tNot, n_tAnd, n_tOr, n_tTrue,
 n_sSeq, n_sIf, n_sNil, n_sRet, n_sExpr, n_sBreak, n_sCont, n_sSet, n_sSetO, n_sSetZ, n_sFrz, n_sFor, n_gN, pq2_e, n_sPar, n_sParFG, n_sParGF, n_sParFF, n_sP3, n_sP4, n_eTupR, n_eLstR, n_eRevT, q_revT, n_sAsg, n_gTn_t, n_gTn_k, n_gsCons, n_gsNil, n_eLC, n_iSeq, n_seq_s, n_seq_l, n_seq_t, n_seq_k,
 rq1_e, rq2_e, n_iRng1m, n_iRng2m, n_eSl, n_oNone, n_oSome, n_eMeth, n_eRev, apQ_e, n_sAppend, n_sAug, n_fnM, n_ret, n_ask, n_dTuple, cif_t, cif_f, isB_bl, isI_int, optP_s, hasT,
 getS, setS, frzS, startE, slK, wipeE, put0, put1, put2, put3, q_add_i, q_add_s, q_add_t, q_add_l, q_sub, q_mul_i, q_mul_s, q_mod, q_neg, q_lt, q_le, q_gt, q_ge, q_eq_i, q_ne_i, q_eq_s, q_ne_s, q_is_bb, q_is_bn, q_is_in, q_is_sn, q_is_tn, q_is_nn, q_isn_bb, q_isn_bn, q_isn_in, q_isn_sn, q_isn_tn, q_isn_nn,
 q_it_l, q_it_t, q_it_k, q_it_s, at0, at1, at2, at3, atm1_1, atm1_2, atm1_a, q_len_s, q_len_l, q_len_t, q_isi, q_int, q_str, ty_int, ty_str, ty_bl, ty_lst, ty_tup, ty_kt, ty_non, isiT, q_sl_s, q_sl_t, q_sl_l,
 n_iZipU, n_iEnU, eqU_l, zqU_ll, zqU_lt, zqU_ls, eqU_t, zqU_tl, zqU_tt, zqU_ts, eqU_s, zqU_sl, zqU_st, zqU_ss, eqU_k,
 List.map_cons, List.map_nil, List.length_cons, List.length_nil, List.cons_append, List.nil_append, List.append_nil, List.replicate_zero, List.replicate_succ, Nat.reduceAdd, Nat.reduceSub, Nat.reduceEqDiff, Nat.reduceLeDiff, Int.reduceAdd, Int.reduceSub, Int.reduceMul, Int.reduceMod, Int.reduceNeg, Int.reduceLT, Int.reduceLE, Int.reduceBEq, decide_true, decide_false, Bool.not_true, Bool.not_false, true_and, and_true, Nat.zero_add]
      have hm : lo < (lo + hi) / 2 := by omega
      have hm2 : (lo + hi) / 2 < hi := by omega
      refine ⟨by omega, ?_⟩
      generalize (lo + hi) / 2 = mid at hm hm2
      try simp only [n_eVar, n_eVarB, varQ_fz, varB_fz, varB_ow, n_eC, n_eCall, n_aCons, n_aNil, n_eBin, n_eUn, n_eTup, n_eLst, n_eIf, n_eAnd, n_eOr, n_eNot, n_eChain, n_tVal, n_tNot, n_tAnd, n_tOr, n_tTrue,
 n_sSeq, n_sIf, n_sNil, n_sRet, n_sExpr, n_sBreak, n_sCont, n_sSet, n_sSetO, n_sSetZ, n_sFrz, n_sFor, n_gN, pq2_e, n_sPar, n_sParFG, n_sParGF, n_sParFF, n_sP3, n_sP4, n_eTupR, n_eLstR, n_eRevT, q_revT, n_sAsg, n_gTn_t, n_gTn_k, n_gsCons, n_gsNil, n_eLC, n_iSeq, n_seq_s, n_seq_l, n_seq_t, n_seq_k,
 rq1_e, rq2_e, n_iRng1m, n_iRng2m, n_eSl, n_oNone, n_oSome, n_eMeth, n_eRev, apQ_e, n_sAppend, n_sAug, n_fnM, n_ret, n_ask, n_dTuple, cif_t, cif_f, isB_bl, isI_int, optP_s, hasT,
 getS, setS, frzS, startE, slK, wipeE, put0, put1, put2, put3, q_add_i, q_add_s, q_add_t, q_add_l, q_sub, q_mul_i, q_mul_s, q_mod, q_neg, q_lt, q_le, q_gt, q_ge, q_eq_i, q_ne_i, q_eq_s, q_ne_s, q_is_bb, q_is_bn, q_is_in, q_is_sn, q_is_tn, q_is_nn, q_isn_bb, q_isn_bn, q_isn_in, q_isn_sn, q_isn_tn, q_isn_nn,
 q_it_l, q_it_t, q_it_k, q_it_s, at0, at1, at2, at3, atm1_1, atm1_2, atm1_a, q_len_s, q_len_l, q_len_t, q_isi, q_int, q_str, ty_int, ty_str, ty_bl, ty_lst, ty_tup, ty_kt, ty_non, isiT, q_sl_s, q_sl_t, q_sl_l,
 n_iZipU, n_iEnU, eqU_l, zqU_ll, zqU_lt, zqU_ls, eqU_t, zqU_tl, zqU_tt, zqU_ts, eqU_s, zqU_sl, zqU_st, zqU_ss, eqU_k,
 List.map_cons, List.map_nil, List.length_cons, List.length_nil, List.cons_append, List.nil_append, List.append_nil, List.replicate_zero, List.replicate_succ, Nat.reduceAdd, Nat.reduceSub, Nat.reduceEqDiff, Nat.reduceLeDiff, Int.reduceAdd, Int.reduceSub, Int.reduceMul, Int.reduceMod, Int.reduceNeg, Int.reduceLT, Int.reduceLE, Int.reduceBEq, decide_true, decide_false, Bool.not_true, Bool.not_false, true_and, and_true, Nat.zero_add]
      have sm : small mid := by unfold small; omega
      refine ⟨.inl sm, ?_⟩
      by_cases f : mid * mid ≤ n
      · rw [decide_eq_true f]
        simp only [n_eVar, n_eVarB, varQ_fz, varB_fz, varB_ow, n_eC, n_eCall, n_aCons, n_aNil, n_eBin, n_eUn, n_eTup, n_eLst, n_eIf, n_eAnd, n_eOr, n_eNot, n_eChain, n_tVal, n_tNot, n_tAnd, n_tOr, n_tTrue,
 n_sSeq, n_sIf, n_sNil, n_sRet, n_sExpr, n_sBreak, n_sCont, n_sSet, n_sSetO, n_sSetZ, n_sFrz, n_sFor, n_gN, pq2_e, n_sPar, n_sParFG, n_sParGF, n_sParFF, n_sP3, n_sP4, n_eTupR, n_eLstR, n_eRevT, q_revT, n_sAsg, n_gTn_t, n_gTn_k, n_gsCons, n_gsNil, n_eLC, n_iSeq, n_seq_s, n_seq_l, n_seq_t, n_seq_k,
 rq1_e, rq2_e, n_iRng1m, n_iRng2m, n_eSl, n_oNone, n_oSome, n_eMeth, n_eRev, apQ_e, n_sAppend, n_sAug, n_fnM, n_ret, n_ask, n_dTuple, cif_t, cif_f, isB_bl, isI_int, optP_s, hasT,
 getS, setS, frzS, startE, slK, wipeE, put0, put1, put2, put3, q_add_i, q_add_s, q_add_t, q_add_l, q_sub, q_mul_i, q_mul_s, q_mod, q_neg, q_lt, q_le, q_gt, q_ge, q_eq_i, q_ne_i, q_eq_s, q_ne_s, q_is_bb, q_is_bn, q_is_in, q_is_sn, q_is_tn, q_is_nn, q_isn_bb, q_isn_bn, q_isn_in, q_isn_sn, q_isn_tn, q_isn_nn,
 q_it_l, q_it_t, q_it_k, q_it_s, at0, at1, at2, at3, atm1_1, atm1_2, atm1_a, q_len_s, q_len_l, q_len_t, q_isi, q_int, q_str, ty_int, ty_str, ty_bl, ty_lst, ty_tup, ty_kt, ty_non, isiT, q_sl_s, q_sl_t, q_sl_l,
 n_iZipU, n_iEnU, eqU_l, zqU_ll, zqU_lt, zqU_ls, eqU_t, zqU_tl, zqU_tt, zqU_ts, eqU_s, zqU_sl, zqU_st, zqU_ss, eqU_k,
 List.map_cons, List.map_nil, List.length_cons, List.length_nil, List.cons_append, List.nil_append, List.append_nil, List.replicate_zero, List.replicate_succ, Nat.reduceAdd, Nat.reduceSub, Nat.reduceEqDiff, Nat.reduceLeDiff, Int.reduceAdd, Int.reduceSub, Int.reduceMul, Int.reduceMod, Int.reduceNeg, Int.reduceLT, Int.reduceLE, Int.reduceBEq, decide_true, decide_false, Bool.not_true, Bool.not_false, true_and, and_true, Nat.zero_add]
        exact ⟨(show 2 ≤ lim by decide), _, by omega, mid, hi, _, rfl, by omega, by omega, f, a4, a5, rfl⟩
      · rw [decide_eq_false f]
        simp only [n_eVar, n_eVarB, varQ_fz, varB_fz, varB_ow, n_eC, n_eCall, n_aCons, n_aNil, n_eBin, n_eUn, n_eTup, n_eLst, n_eIf, n_eAnd, n_eOr, n_eNot, n_eChain, n_tVal, n_tNot, n_tAnd, n_tOr, n_tTrue,
 n_sSeq, n_sIf, n_sNil, n_sRet, n_sExpr, n_sBreak, n_sCont, n_sSet, n_sSetO, n_sSetZ, n_sFrz, n_sFor, n_gN, pq2_e, n_sPar, n_sParFG, n_sParGF, n_sParFF, n_sP3, n_sP4, n_eTupR, n_eLstR, n_eRevT, q_revT, n_sAsg, n_gTn_t, n_gTn_k, n_gsCons, n_gsNil, n_eLC, n_iSeq, n_seq_s, n_seq_l, n_seq_t, n_seq_k,
 rq1_e, rq2_e, n_iRng1m, n_iRng2m, n_eSl, n_oNone, n_oSome, n_eMeth, n_eRev, apQ_e, n_sAppend, n_sAug, n_fnM, n_ret, n_ask, n_dTuple, cif_t, cif_f, isB_bl, isI_int, optP_s, hasT,
 getS, setS, frzS, startE, slK, wipeE, put0, put1, put2, put3, q_add_i, q_add_s, q_add_t, q_add_l, q_sub, q_mul_i, q_mul_s, q_mod, q_neg, q_lt, q_le, q_gt, q_ge, q_eq_i, q_ne_i, q_eq_s, q_ne_s, q_is_bb, q_is_bn, q_is_in, q_is_sn, q_is_tn, q_is_nn, q_isn_bb, q_isn_bn, q_isn_in, q_isn_sn, q_isn_tn, q_isn_nn,
 q_it_l, q_it_t, q_it_k, q_it_s, at0, at1, at2, at3, atm1_1, atm1_2, atm1_a, q_len_s, q_len_l, q_len_t, q_isi, q_int, q_str, ty_int, ty_str, ty_bl, ty_lst, ty_tup, ty_kt, ty_non, isiT, q_sl_s, q_sl_t, q_sl_l,
 n_iZipU, n_iEnU, eqU_l, zqU_ll, zqU_lt, zqU_ls, eqU_t, zqU_tl, zqU_tt, zqU_ts, eqU_s, zqU_sl, zqU_st, zqU_ss, eqU_k,
 List.map_cons, List.map_nil, List.length_cons, List.length_nil, List.cons_append, List.nil_append, List.append_nil, List.replicate_zero, List.replicate_succ, Nat.reduceAdd, Nat.reduceSub, Nat.reduceEqDiff, Nat.reduceLeDiff, Int.reduceAdd, Int.reduceSub, Int.reduceMul, Int.reduceMod, Int.reduceNeg, Int.reduceLT, Int.reduceLE, Int.reduceBEq, decide_true, decide_false, Bool.not_true, Bool.not_false, true_and, and_true, Nat.zero_add]
        exact ⟨(show 2 ≤ lim by decide), _, by omega, lo, mid, _, rfl, by omega, by omega, a3, by omega, by omega, rfl⟩
    · rw [decide_eq_false e]
      simp only [n_eVar, n_eVarB, varQ_fz, varB_fz, varB_ow, n_eC, n_eCall, n_aCons, n_aNil, n_eBin, n_eUn, n_eTup, n_eLst, n_eIf, n_eAnd, n_eOr, n_eNot, n_eChain, n_tVal, n_tNot, n_tAnd, n_tOr, n_tTrue,
 n_sSeq, n_sIf, n_sNil, n_sRet, n_sExpr, n_sBreak, n_sCont, n_sSet, n_sSetO, n_sSetZ, n_sFrz, n_sFor, n_gN, pq2_e, n_sPar, n_sParFG, n_sParGF, n_sParFF, n_sP3, n_sP4, n_eTupR, n_eLstR, n_eRevT, q_revT, n_sAsg, n_gTn_t, n_gTn_k, n_gsCons, n_gsNil, n_eLC, n_iSeq, n_seq_s, n_seq_l, n_seq_t, n_seq_k,
 rq1_e, rq2_e, n_iRng1m, n_iRng2m, n_eSl, n_oNone, n_oSome, n_eMeth, n_eRev, apQ_e, n_sAppend, n_sAug, n_fnM, n_ret, n_ask, n_dTuple, cif_t, cif_f, isB_bl, isI_int, optP_s, hasT,
 getS, setS, frzS, startE, slK, wipeE, put0, put1, put2, put3, q_add_i, q_add_s, q_add_t, q_add_l, q_sub, q_mul_i, q_mul_s, q_mod, q_neg, q_lt, q_le, q_gt, q_ge, q_eq_i, q_ne_i, q_eq_s, q_ne_s, q_is_bb, q_is_bn, q_is_in, q_is_sn, q_is_tn, q_is_nn, q_isn_bb, q_isn_bn, q_isn_in, q_isn_sn, q_isn_tn, q_isn_nn,
 q_it_l, q_it_t, q_it_k, q_it_s, at0, at1, at2, at3, atm1_1, atm1_2, atm1_a, q_len_s, q_len_l, q_len_t, q_isi, q_int, q_str, ty_int, ty_str, ty_bl, ty_lst, ty_tup, ty_kt, ty_non, isiT, q_sl_s, q_sl_t, q_sl_l,
 n_iZipU, n_iEnU, eqU_l, zqU_ll, zqU_lt, zqU_ls, eqU_t, zqU_tl, zqU_tt, zqU_ts, eqU_s, zqU_sl, zqU_st, zqU_ss, eqU_k,
 List.map_cons, List.map_nil, List.length_cons, List.length_nil, List.cons_append, List.nil_append, List.append_nil, List.replicate_zero, List.replicate_succ, Nat.reduceAdd, Nat.reduceSub, Nat.reduceEqDiff, Nat.reduceLeDiff, Int.reduceAdd, Int.reduceSub, Int.reduceMul, Int.reduceMod, Int.reduceNeg, Int.reduceLT, Int.reduceLE, Int.reduceBEq, decide_true, decide_false, Bool.not_true, Bool.not_false, true_and, and_true, Nat.zero_add]
      have : hi = lo + 1 := by omega
      subst this
      exact h _ ⟨a1, a3, a4⟩
theorem big_sq {n x : Int} (hn : n < 21267647932558653966460912964485513216) (h : x * x ≤ n) : x < 4611686018427387904 := by
  refine Classical.byContradiction fun c => ?_
  have := sq_mono (x := 4611686018427387904) (y := x) (by omega) (by omega)
  omega
theorem sp_law_root {n : Int} (h0 : 0 ≤ n) (hn : n < 21267647932558653966460912964485513216) (h : ∀ r, isRt n r → P (.int r)) : m_law_root [.int n] P := by
  simp only [m_law_root, S_law_root, n_eVar, n_eVarB, varQ_fz, varB_fz, varB_ow, n_eC, n_eCall, n_aCons, n_aNil, n_eBin, n_eUn, n_eTup, n_eLst, n_eIf, n_eAnd, n_eOr, n_eNot, n_eChain, n_tVal, n_tNot, n_tAnd, n_tOr, n_tTrue,
 n_sSeq, n_sIf, n_sNil, n_sRet, n_sExpr, n_sBreak, n_sCont, n_sSet, n_sSetO, n_sSetZ, n_sFrz, n_sFor, n_gN, pq2_e, n_sPar, n_sParFG, n_sParGF, n_sParFF, n_sP3, n_sP4, n_eTupR, n_eLstR, n_eRevT, q_revT, n_sAsg, n_gTn_t, n_gTn_k, n_gsCons, n_gsNil, n_eLC, n_iSeq, n_seq_s, n_seq_l, n_seq_t, n_seq_k,
 rq1_e, rq2_e, n_iRng1m, n_iRng2m, n_eSl, n_oNone, n_oSome, n_eMeth, n_eRev, apQ_e, n_sAppend, n_sAug, n_fnM, n_ret, n_ask, n_dTuple, cif_t, cif_f, isB_bl, isI_int, optP_s, hasT,
 getS, setS, frzS, startE, slK, wipeE, put0, put1, put2, put3, q_add_i, q_add_s, q_add_t, q_add_l, q_sub, q_mul_i, q_mul_s, q_mod, q_neg, q_lt, q_le, q_gt, q_ge, q_eq_i, q_ne_i, q_eq_s, q_ne_s, q_is_bb, q_is_bn, q_is_in, q_is_sn, q_is_tn, q_is_nn, q_isn_bb, q_isn_bn, q_isn_in, q_isn_sn, q_isn_tn, q_isn_nn,
 q_it_l, q_it_t, q_it_k, q_it_s, at0, at1, at2, at3, atm1_1, atm1_2, atm1_a, q_len_s, q_len_l, q_len_t, q_isi, q_int, q_str, ty_int, ty_str, ty_bl, ty_lst, ty_tup, ty_kt, ty_non, isiT, q_sl_s, q_sl_t, q_sl_l,
 n_iZipU, n_iEnU, eqU_l, zqU_ll, zqU_lt, zqU_ls, eqU_t, zqU_tl, zqU_tt, zqU_ts, eqU_s, zqU_sl, zqU_st, zqU_ss, eqU_k,
 List.map_cons, List.map_nil, List.length_cons, List.length_nil, List.cons_append, List.nil_append, List.append_nil, List.replicate_zero, List.replicate_succ, Nat.reduceAdd, Nat.reduceSub, Nat.reduceEqDiff, Nat.reduceLeDiff, Int.reduceAdd, Int.reduceSub, Int.reduceMul, Int.reduceMod, Int.reduceNeg, Int.reduceLT, Int.reduceLE, Int.reduceBEq, decide_true, decide_false, Bool.not_true, Bool.not_false, true_and, and_true, Nat.zero_add]
  refine ⟨fun m env => ∃ (k : Nat) (s : Int), env = [.fz (.int n), .fz (.int 0), .fz (.int s)] ∧ s = 2 ^ k ∧ 0 < s ∧ (k = 0 ∨ (s / 2) * (s / 2) ≤ n) ∧ m = (n + 1 - s).toNat, ⟨_, 0, 1, rfl, rfl, by omega, .inl rfl, rfl⟩, ?_⟩
  rintro m env ⟨k, s, rfl, a1, a2, a3, rfl⟩
  have sl : s < 9223372036854775808 := by
    rcases a3 with a3 | a3
    · subst a3; simp at a1; omega
    · have := big_sq hn a3
      omega
  have sm : small s := by unfold small; omega
  simp only [n_eVar, n_eVarB, varQ_fz, varB_fz, varB_ow, n_eC, n_eCall, n_aCons, n_aNil, n_eBin, n_eUn, n_eTup, n_eLst, n_eIf, n_eAnd, n_eOr, n_eNot, n_eChain, n_tVal, n_tNot, n_tAnd, n_tOr, n_tTrue,
 n_sSeq, n_sIf, n_sNil, n_sRet, n_sExpr, n_sBreak, n_sCont, n_sSet, n_sSetO, n_sSetZ, n_sFrz, n_sFor, n_gN, pq2_e, n_sPar, n_sParFG, n_sParGF, n_sParFF, n_sP3, n_sP4, n_eTupR, n_eLstR, n_eRevT, q_revT, n_sAsg, n_gTn_t, n_gTn_k, n_gsCons, n_gsNil, n_eLC, n_iSeq, n_seq_s, n_seq_l, n_seq_t, n_seq_k,
 rq1_e, rq2_e, n_iRng1m, n_iRng2m, n_eSl, n_oNone, n_oSome, n_eMeth, n_eRev, apQ_e, n_sAppend, n_sAug, n_fnM, n_ret, n_ask, n_dTuple, cif_t, cif_f, isB_bl, isI_int, optP_s, hasT,
 getS, setS, frzS, startE, slK, wipeE, put0, put1, put2, put3, q_add_i, q_add_s, q_add_t, q_add_l, q_sub, q_mul_i, q_mul_s, q_mod, q_neg, q_lt, q_le, q_gt, q_ge, q_eq_i, q_ne_i, q_eq_s, q_ne_s, q_is_bb, q_is_bn, q_is_in, q_is_sn, q_is_tn, q_is_nn, q_isn_bb, q_isn_bn, q_isn_in, q_isn_sn, q_isn_tn, q_isn_nn,
 q_it_l, q_it_t, q_it_k, q_it_s, at0, at1, at2, at3, atm1_1, atm1_2, atm1_a, q_len_s, q_len_l, q_len_t, q_isi, q_int, q_str, ty_int, ty_str, ty_bl, ty_lst, ty_tup, ty_kt, ty_non, isiT, q_sl_s, q_sl_t, q_sl_l,
 n_iZipU, n_iEnU, eqU_l, zqU_ll, zqU_lt, zqU_ls, eqU_t, zqU_tl, zqU_tt, zqU_ts, eqU_s, zqU_sl, zqU_st, zqU_ss, eqU_k,
 List.map_cons, List.map_nil, List.length_cons, List.length_nil, List.cons_append, List.nil_append, List.append_nil, List.replicate_zero, List.replicate_succ, Nat.reduceAdd, Nat.reduceSub, Nat.reduceEqDiff, Nat.reduceLeDiff, Int.reduceAdd, Int.reduceSub, Int.reduceMul, Int.reduceMod, Int.reduceNeg, Int.reduceLT, Int.reduceLE, Int.reduceBEq, decide_true, decide_false, Bool.not_true, Bool.not_false, true_and, and_true, Nat.zero_add]
  refine ⟨.inl sm, ?_⟩
  by_cases e : s * s ≤ n
  · rw [decide_eq_true e]
    simp only [n_eVar, n_eVarB, varQ_fz, varB_fz, varB_ow, n_eC, n_eCall, n_aCons, n_aNil, n_eBin, n_eUn, n_eTup, n_eLst, n_eIf, n_eAnd, n_eOr, n_eNot, n_eChain, n_tVal, n_tNot, n_tAnd, n_tOr, n_tTrue,
 n_sSeq, n_sIf, n_sNil, n_sRet, n_sExpr, n_sBreak, n_sCont, n_sSet, n_sSetO, n_sSetZ, n_sFrz, n_sFor, n_gN, pq2_e, n_sPar, n_sParFG, n_sParGF, n_sParFF, n_sP3, n_sP4, n_eTupR, n_eLstR, n_eRevT, q_revT, n_sAsg, n_gTn_t, n_gTn_k, n_gsCons, n_gsNil, n_eLC, n_iSeq, n_seq_s, n_seq_l, n_seq_t, n_seq_k,
 rq1_e, rq2_e, n_iRng1m, n_iRng2m, n_eSl, n_oNone, n_oSome, n_eMeth, n_eRev, apQ_e, n_sAppend, n_sAug, n_fnM, n_ret, n_ask, n_dTuple, cif_t, cif_f, isB_bl, isI_int, optP_s, hasT,
 getS, setS, frzS, startE, slK, wipeE, put0, put1, put2, put3, q_add_i, q_add_s, q_add_t, q_add_l, q_sub, q_mul_i, q_mul_s, q_mod, q_neg, q_lt, q_le, q_gt, q_ge, q_eq_i, q_ne_i, q_eq_s, q_ne_s, q_is_bb, q_is_bn, q_is_in, q_is_sn, q_is_tn, q_is_nn, q_isn_bb, q_isn_bn, q_isn_in, q_isn_sn, q_isn_tn, q_isn_nn,
 q_it_l, q_it_t, q_it_k, q_it_s, at0, at1, at2, at3, atm1_1, atm1_2, atm1_a, q_len_s, q_len_l, q_len_t, q_isi, q_int, q_str, ty_int, ty_str, ty_bl, ty_lst, ty_tup, ty_kt, ty_non, isiT, q_sl_s, q_sl_t, q_sl_l,
 n_iZipU, n_iEnU, eqU_l, zqU_ll, zqU_lt, zqU_ls, eqU_t, zqU_tl, zqU_tt, zqU_ts, eqU_s, zqU_sl, zqU_st, zqU_ss, eqU_k,
 List.map_cons, List.map_nil, List.length_cons, List.length_nil, List.cons_append, List.nil_append, List.append_nil, List.replicate_zero, List.replicate_succ, Nat.reduceAdd, Nat.reduceSub, Nat.reduceEqDiff, Nat.reduceLeDiff, Int.reduceAdd, Int.reduceSub, Int.reduceMul, Int.reduceMod, Int.reduceNeg, Int.reduceLT, Int.reduceLE, Int.reduceBEq, decide_true, decide_false, Bool.not_true, Bool.not_false, true_and, and_true, Nat.zero_add]
    have sn : s ≤ n := by
      have := Int.mul_nonneg (a := s - 1) (b := s) (by omega) (by omega)
      have e2 : (s - 1) * s = s * s - s := by grind
      omega
    exact ⟨.inl (by unfold small; omega), _, by omega, k + 1, 2 * s, rfl, by rw [a1, Int.pow_succ]; omega, by omega, .inr (by rw [show 2 * s / 2 = s by omega]; exact e), rfl⟩
  · rw [decide_eq_false e]
    simp only [n_eVar, n_eVarB, varQ_fz, varB_fz, varB_ow, n_eC, n_eCall, n_aCons, n_aNil, n_eBin, n_eUn, n_eTup, n_eLst, n_eIf, n_eAnd, n_eOr, n_eNot, n_eChain, n_tVal, n_tNot, n_tAnd, n_tOr, n_tTrue,
 n_sSeq, n_sIf, n_sNil, n_sRet, n_sExpr, n_sBreak, n_sCont, n_sSet, n_sSetO, n_sSetZ, n_sFrz, n_sFor, n_gN, pq2_e, n_sPar, n_sParFG, n_sParGF, n_sParFF, n_sP3, n_sP4, n_eTupR, n_eLstR, n_eRevT, q_revT, n_sAsg, n_gTn_t, n_gTn_k, n_gsCons, n_gsNil, n_eLC, n_iSeq, n_seq_s, n_seq_l, n_seq_t, n_seq_k,
 rq1_e, rq2_e, n_iRng1m, n_iRng2m, n_eSl, n_oNone, n_oSome, n_eMeth, n_eRev, apQ_e, n_sAppend, n_sAug, n_fnM, n_ret, n_ask, n_dTuple, cif_t, cif_f, isB_bl, isI_int, optP_s, hasT,
 getS, setS, frzS, startE, slK, wipeE, put0, put1, put2, put3, q_add_i, q_add_s, q_add_t, q_add_l, q_sub, q_mul_i, q_mul_s, q_mod, q_neg, q_lt, q_le, q_gt, q_ge, q_eq_i, q_ne_i, q_eq_s, q_ne_s, q_is_bb, q_is_bn, q_is_in, q_is_sn, q_is_tn, q_is_nn, q_isn_bb, q_isn_bn, q_isn_in, q_isn_sn, q_isn_tn, q_isn_nn,
 q_it_l, q_it_t, q_it_k, q_it_s, at0, at1, at2, at3, atm1_1, atm1_2, atm1_a, q_len_s, q_len_l, q_len_t, q_isi, q_int, q_str, ty_int, ty_str, ty_bl, ty_lst, ty_tup, ty_kt, ty_non, isiT, q_sl_s, q_sl_t, q_sl_l,
 n_iZipU, n_iEnU, eqU_l, zqU_ll, zqU_lt, zqU_ls, eqU_t, zqU_tl, zqU_tt, zqU_ts, eqU_s, zqU_sl, zqU_st, zqU_ss, eqU_k,
 List.map_cons, List.map_nil, List.length_cons, List.length_nil, List.cons_append, List.nil_append, List.append_nil, List.replicate_zero, List.replicate_succ, Nat.reduceAdd, Nat.reduceSub, Nat.reduceEqDiff, Nat.reduceLeDiff, Int.reduceAdd, Int.reduceSub, Int.reduceMul, Int.reduceMod, Int.reduceNeg, Int.reduceLT, Int.reduceLE, Int.reduceBEq, decide_true, decide_false, Bool.not_true, Bool.not_false, true_and, and_true, Nat.zero_add]
    refine ⟨fun m env => ∃ (k : Nat) (lo s : Int), env = [.fz (.int n), .fz (.int lo), .fz (.int s)] ∧ 0 ≤ lo ∧ lo * lo ≤ n ∧ ((s = 2 ^ k ∧ 0 < s ∧ s < 9223372036854775808 ∧ n < (lo + 2 * s) * (lo + 2 * s)) ∨ (s = 0 ∧ n < (lo + 1) * (lo + 1))) ∧ m = s.toNat, ⟨_, k, 0, s, rfl, by omega, by omega, .inl ⟨a1, a2, sl, ?_⟩, rfl⟩, ?_⟩
    · have := sq_mono (x := s) (y := 0 + 2 * s) (by omega) (by omega)
      omega
    · clear e a1 a2 a3 sl sm
      rintro m env ⟨k, lo, s, rfl, b1, b2, b3, rfl⟩
      have lb := big_sq hn b2
      simp only [n_eVar, n_eVarB, varQ_fz, varB_fz, varB_ow, n_eC, n_eCall, n_aCons, n_aNil, n_eBin, n_eUn, n_eTup, n_eLst, n_eIf, n_eAnd, n_eOr, n_eNot, n_eChain, n_tVal, n_tNot, n_tAnd, n_tOr, n_tTrue,
 n_sSeq, n_sIf, n_sNil, n_sRet, n_sExpr, n_sBreak, n_sCont, n_sSet, n_sSetO, n_sSetZ, n_sFrz, n_sFor, n_gN, pq2_e, n_sPar, n_sParFG, n_sParGF, n_sParFF, n_sP3, n_sP4, n_eTupR, n_eLstR, n_eRevT, q_revT, n_sAsg, n_gTn_t, n_gTn_k, n_gsCons, n_gsNil, n_eLC, n_iSeq, n_seq_s, n_seq_l, n_seq_t, n_seq_k,
 rq1_e, rq2_e, n_iRng1m, n_iRng2m, n_eSl, n_oNone, n_oSome, n_eMeth, n_eRev, apQ_e, n_sAppend, n_sAug, n_fnM, n_ret, n_ask, n_dTuple, cif_t, cif_f, isB_bl, isI_int, optP_s, hasT,
 getS, setS, frzS, startE, slK, wipeE, put0, put1, put2, put3, q_add_i, q_add_s, q_add_t, q_add_l, q_sub, q_mul_i, q_mul_s, q_mod, q_neg, q_lt, q_le, q_gt, q_ge, q_eq_i, q_ne_i, q_eq_s, q_ne_s, q_is_bb, q_is_bn, q_is_in, q_is_sn, q_is_tn, q_is_nn, q_isn_bb, q_isn_bn, q_isn_in, q_isn_sn, q_isn_tn, q_isn_nn,
 q_it_l, q_it_t, q_it_k, q_it_s, at0, at1, at2, at3, atm1_1, atm1_2, atm1_a, q_len_s, q_len_l, q_len_t, q_isi, q_int, q_str, ty_int, ty_str, ty_bl, ty_lst, ty_tup, ty_kt, ty_non, isiT, q_sl_s, q_sl_t, q_sl_l,
 n_iZipU, n_iEnU, eqU_l, zqU_ll, zqU_lt, zqU_ls, eqU_t, zqU_tl, zqU_tt, zqU_ts, eqU_s, zqU_sl, zqU_st, zqU_ss, eqU_k,
 List.map_cons, List.map_nil, List.length_cons, List.length_nil, List.cons_append, List.nil_append, List.append_nil, List.replicate_zero, List.replicate_succ, Nat.reduceAdd, Nat.reduceSub, Nat.reduceEqDiff, Nat.reduceLeDiff, Int.reduceAdd, Int.reduceSub, Int.reduceMul, Int.reduceMod, Int.reduceNeg, Int.reduceLT, Int.reduceLE, Int.reduceBEq, decide_true, decide_false, Bool.not_true, Bool.not_false, true_and, and_true, Nat.zero_add]
      rcases b3 with ⟨c1, c2, c3, c4⟩ | ⟨rfl, c1⟩
      · rw [decide_eq_true (show s > 0 from c2)]
        simp only [n_eVar, n_eVarB, varQ_fz, varB_fz, varB_ow, n_eC, n_eCall, n_aCons, n_aNil, n_eBin, n_eUn, n_eTup, n_eLst, n_eIf, n_eAnd, n_eOr, n_eNot, n_eChain, n_tVal, n_tNot, n_tAnd, n_tOr, n_tTrue,
 n_sSeq, n_sIf, n_sNil, n_sRet, n_sExpr, n_sBreak, n_sCont, n_sSet, n_sSetO, n_sSetZ, n_sFrz, n_sFor, n_gN, pq2_e, n_sPar, n_sParFG, n_sParGF, n_sParFF, n_sP3, n_sP4, n_eTupR, n_eLstR, n_eRevT, q_revT, n_sAsg, n_gTn_t, n_gTn_k, n_gsCons, n_gsNil, n_eLC, n_iSeq, n_seq_s, n_seq_l, n_seq_t, n_seq_k,
 rq1_e, rq2_e, n_iRng1m, n_iRng2m, n_eSl, n_oNone, n_oSome, n_eMeth, n_eRev, apQ_e, n_sAppend, n_sAug, n_fnM, n_ret, n_ask, n_dTuple, cif_t, cif_f, isB_bl, isI_int, optP_s, hasT,
 getS, setS, frzS, startE, slK, wipeE, put0, put1, put2, put3, q_add_i, q_add_s, q_add_t, q_add_l, q_sub, q_mul_i, q_mul_s, q_mod, q_neg, q_lt, q_le, q_gt, q_ge, q_eq_i, q_ne_i, q_eq_s, q_ne_s, q_is_bb, q_is_bn, q_is_in, q_is_sn, q_is_tn, q_is_nn, q_isn_bb, q_isn_bn, q_isn_in, q_isn_sn, q_isn_tn, q_isn_nn,
 q_it_l, q_it_t, q_it_k, q_it_s, at0, at1, at2, at3, atm1_1, atm1_2, atm1_a, q_len_s, q_len_l, q_len_t, q_isi, q_int, q_str, ty_int, ty_str, ty_bl, ty_lst, ty_tup, ty_kt, ty_non, isiT, q_sl_s, q_sl_t, q_sl_l,
 n_iZipU, n_iEnU, eqU_l, zqU_ll, zqU_lt, zqU_ls, eqU_t, zqU_tl, zqU_tt, zqU_ts, eqU_s, zqU_sl, zqU_st, zqU_ss, eqU_k,
 List.map_cons, List.map_nil, List.length_cons, List.length_nil, List.cons_append, List.nil_append, List.append_nil, List.replicate_zero, List.replicate_succ, Nat.reduceAdd, Nat.reduceSub, Nat.reduceEqDiff, Nat.reduceLeDiff, Int.reduceAdd, Int.reduceSub, Int.reduceMul, Int.reduceMod, Int.reduceNeg, Int.reduceLT, Int.reduceLE, Int.reduceBEq, decide_true, decide_false, Bool.not_true, Bool.not_false, true_and, and_true, Nat.zero_add]
        have sm : small (lo + s) := by unfold small; omega
        have next : ∀ lo' : Int, 0 ≤ lo' → lo' * lo' ≤ n → n < (lo' + s) * (lo' + s) → ∃ m, m < s.toNat ∧ ∃ (k : Nat) (lo s2 : Int), [Sl.fz (D.int n), .fz (.int lo'), .fz (.int (s / 2))] = [.fz (.int n), .fz (.int lo), .fz (.int s2)] ∧ 0 ≤ lo ∧ lo * lo ≤ n ∧ ((s2 = 2 ^ k ∧ 0 < s2 ∧ s2 < 9223372036854775808 ∧ n < (lo + 2 * s2) * (lo + 2 * s2)) ∨ (s2 = 0 ∧ n < (lo + 1) * (lo + 1))) ∧ m = s2.toNat := by
          intro lo' d1 d2 d3
          refine ⟨_, ?_, k - 1, lo', s / 2, rfl, d1, d2, ?_, rfl⟩
          · omega
          · cases k with
            | zero =>
              simp at c1
              subst c1
              exact .inr ⟨rfl, d3⟩
            | succ k =>
              rw [Int.pow_succ] at c1
              refine .inl ⟨by rw [Nat.add_sub_cancel]; omega, by omega, by omega, ?_⟩
              rw [show 2 * (s / 2) = s by omega]
              exact d3
        refine ⟨.inl sm, ?_⟩
        by_cases f : (lo + s) * (lo + s) ≤ n
        · rw [decide_eq_true f]
          simp only [n_eVar, n_eVarB, varQ_fz, varB_fz, varB_ow, n_eC, n_eCall, n_aCons, n_aNil, n_eBin, n_eUn, n_eTup, n_eLst, n_eIf, n_eAnd, n_eOr, n_eNot, n_eChain, n_tVal, n_tNot, n_tAnd, n_tOr, n_tTrue,
 n_sSeq, n_sIf, n_sNil, n_sRet, n_sExpr, n_sBreak, n_sCont, n_sSet, n_sSetO, n_sSetZ, n_sFrz, n_sFor, n_gN, pq2_e, n_sPar, n_sParFG, n_sParGF, n_sParFF, n_sP3, n_sP4, n_eTupR, n_eLstR, n_eRevT, q_revT, n_sAsg, n_gTn_t, n_gTn_k, n_gsCons, n_gsNil, n_eLC, n_iSeq, n_seq_s, n_seq_l, n_seq_t, n_seq_k,
 rq1_e, rq2_e, n_iRng1m, n_iRng2m, n_eSl, n_oNone, n_oSome, n_eMeth, n_eRev, apQ_e, n_sAppend, n_sAug, n_fnM, n_ret, n_ask, n_dTuple, cif_t, cif_f, isB_bl, isI_int, optP_s, hasT,
 getS, setS, frzS, startE, slK, wipeE, put0, put1, put2, put3, q_add_i, q_add_s, q_add_t, q_add_l, q_sub, q_mul_i, q_mul_s, q_mod, q_neg, q_lt, q_le, q_gt, q_ge, q_eq_i, q_ne_i, q_eq_s, q_ne_s, q_is_bb, q_is_bn, q_is_in, q_is_sn, q_is_tn, q_is_nn, q_isn_bb, q_isn_bn, q_isn_in, q_isn_sn, q_isn_tn, q_isn_nn,
 q_it_l, q_it_t, q_it_k, q_it_s, at0, at1, at2, at3, atm1_1, atm1_2, atm1_a, q_len_s, q_len_l, q_len_t, q_isi, q_int, q_str, ty_int, ty_str, ty_bl, ty_lst, ty_tup, ty_kt, ty_non, isiT, q_sl_s, q_sl_t, q_sl_l,
 n_iZipU, n_iEnU, eqU_l, zqU_ll, zqU_lt, zqU_ls, eqU_t, zqU_tl, zqU_tt, zqU_ts, eqU_s, zqU_sl, zqU_st, zqU_ss, eqU_k,
 List.map_cons, List.map_nil, List.length_cons, List.length_nil, List.cons_append, List.nil_append, List.append_nil, List.replicate_zero, List.replicate_succ, Nat.reduceAdd, Nat.reduceSub, Nat.reduceEqDiff, Nat.reduceLeDiff, Int.reduceAdd, Int.reduceSub, Int.reduceMul, Int.reduceMod, Int.reduceNeg, Int.reduceLT, Int.reduceLE, Int.reduceBEq, decide_true, decide_false, Bool.not_true, Bool.not_false, true_and, and_true, Nat.zero_add]
          refine ⟨by omega, next _ (by omega) f ?_⟩
          rw [show lo + s + s = lo + 2 * s by omega]
          exact c4
        · rw [decide_eq_false f]
          simp only [n_eVar, n_eVarB, varQ_fz, varB_fz, varB_ow, n_eC, n_eCall, n_aCons, n_aNil, n_eBin, n_eUn, n_eTup, n_eLst, n_eIf, n_eAnd, n_eOr, n_eNot, n_eChain, n_tVal, n_tNot, n_tAnd, n_tOr, n_tTrue,
 n_sSeq, n_sIf, n_sNil, n_sRet, n_sExpr, n_sBreak, n_sCont, n_sSet, n_sSetO, n_sSetZ, n_sFrz, n_sFor, n_gN, pq2_e, n_sPar, n_sParFG, n_sParGF, n_sParFF, n_sP3, n_sP4, n_eTupR, n_eLstR, n_eRevT, q_revT, n_sAsg, n_gTn_t, n_gTn_k, n_gsCons, n_gsNil, n_eLC, n_iSeq, n_seq_s, n_seq_l, n_seq_t, n_seq_k,
 rq1_e, rq2_e, n_iRng1m, n_iRng2m, n_eSl, n_oNone, n_oSome, n_eMeth, n_eRev, apQ_e, n_sAppend, n_sAug, n_fnM, n_ret, n_ask, n_dTuple, cif_t, cif_f, isB_bl, isI_int, optP_s, hasT,
 getS, setS, frzS, startE, slK, wipeE, put0, put1, put2, put3, q_add_i, q_add_s, q_add_t, q_add_l, q_sub, q_mul_i, q_mul_s, q_mod, q_neg, q_lt, q_le, q_gt, q_ge, q_eq_i, q_ne_i, q_eq_s, q_ne_s, q_is_bb, q_is_bn, q_is_in, q_is_sn, q_is_tn, q_is_nn, q_isn_bb, q_isn_bn, q_isn_in, q_isn_sn, q_isn_tn, q_isn_nn,
 q_it_l, q_it_t, q_it_k, q_it_s, at0, at1, at2, at3, atm1_1, atm1_2, atm1_a, q_len_s, q_len_l, q_len_t, q_isi, q_int, q_str, ty_int, ty_str, ty_bl, ty_lst, ty_tup, ty_kt, ty_non, isiT, q_sl_s, q_sl_t, q_sl_l,
 n_iZipU, n_iEnU, eqU_l, zqU_ll, zqU_lt, zqU_ls, eqU_t, zqU_tl, zqU_tt, zqU_ts, eqU_s, zqU_sl, zqU_st, zqU_ss, eqU_k,
 List.map_cons, List.map_nil, List.length_cons, List.length_nil, List.cons_append, List.nil_append, List.append_nil, List.replicate_zero, List.replicate_succ, Nat.reduceAdd, Nat.reduceSub, Nat.reduceEqDiff, Nat.reduceLeDiff, Int.reduceAdd, Int.reduceSub, Int.reduceMul, Int.reduceMod, Int.reduceNeg, Int.reduceLT, Int.reduceLE, Int.reduceBEq, decide_true, decide_false, Bool.not_true, Bool.not_false, true_and, and_true, Nat.zero_add]
          exact ⟨by omega, next _ b1 b2 (by omega)⟩
      · rw [decide_eq_false (show ¬ ((0 : Int) > 0) by omega)]
        simp only [n_eVar, n_eVarB, varQ_fz, varB_fz, varB_ow, n_eC, n_eCall, n_aCons, n_aNil, n_eBin, n_eUn, n_eTup, n_eLst, n_eIf, n_eAnd, n_eOr, n_eNot, n_eChain, n_tVal, n_tNot, n_tAnd, n_tOr, n_tTrue,
 n_sSeq, n_sIf, n_sNil, n_sRet, n_sExpr, n_sBreak, n_sCont, n_sSet, n_sSetO, n_sSetZ, n_sFrz, n_sFor, n_gN, pq2_e, n_sPar, n_sParFG, n_sParGF, n_sParFF, n_sP3, n_sP4, n_eTupR, n_eLstR, n_eRevT, q_revT, n_sAsg, n_gTn_t, n_gTn_k, n_gsCons, n_gsNil, n_eLC, n_iSeq, n_seq_s, n_seq_l, n_seq_t, n_seq_k,
 rq1_e, rq2_e, n_iRng1m, n_iRng2m, n_eSl, n_oNone, n_oSome, n_eMeth, n_eRev, apQ_e, n_sAppend, n_sAug, n_fnM, n_ret, n_ask, n_dTuple, cif_t, cif_f, isB_bl, isI_int, optP_s, hasT,
 getS, setS, frzS, startE, slK, wipeE, put0, put1, put2, put3, q_add_i, q_add_s, q_add_t, q_add_l, q_sub, q_mul_i, q_mul_s, q_mod, q_neg, q_lt, q_le, q_gt, q_ge, q_eq_i, q_ne_i, q_eq_s, q_ne_s, q_is_bb, q_is_bn, q_is_in, q_is_sn, q_is_tn, q_is_nn, q_isn_bb, q_isn_bn, q_isn_in, q_isn_sn, q_isn_tn, q_isn_nn,
 q_it_l, q_it_t, q_it_k, q_it_s, at0, at1, at2, at3, atm1_1, atm1_2, atm1_a, q_len_s, q_len_l, q_len_t, q_isi, q_int, q_str, ty_int, ty_str, ty_bl, ty_lst, ty_tup, ty_kt, ty_non, isiT, q_sl_s, q_sl_t, q_sl_l,
 n_iZipU, n_iEnU, eqU_l, zqU_ll, zqU_lt, zqU_ls, eqU_t, zqU_tl, zqU_tt, zqU_ts, eqU_s, zqU_sl, zqU_st, zqU_ss, eqU_k,
 List.map_cons, List.map_nil, List.length_cons, List.length_nil, List.cons_append, List.nil_append, List.append_nil, List.replicate_zero, List.replicate_succ, Nat.reduceAdd, Nat.reduceSub, Nat.reduceEqDiff, Nat.reduceLeDiff, Int.reduceAdd, Int.reduceSub, Int.reduceMul, Int.reduceMod, Int.reduceNeg, Int.reduceLT, Int.reduceLE, Int.reduceBEq, decide_true, decide_false, Bool.not_true, Bool.not_false, true_and, and_true, Nat.zero_add]
        exact h _ ⟨b1, b2, c1⟩
end L37
set_option Elab.async false
set_option linter.all false
set_option maxRecDepth 100000
set_option maxHeartbeats 2000000
namespace L37
open G
variable {P : D → Prop}
theorem sp_sign_in {a b : Int} (ha : small a) (hb : small b) (h : P (.int (sg a b))) : m_sign_in [nD a b] P := by
  simp only [m_sign_in, S_sign_in, nD, n_eVar, n_eVarB, varQ_fz, varB_fz, varB_ow, n_eC, n_eCall, n_aCons, n_aNil, n_eBin, n_eUn, n_eTup, n_eLst, n_eIf, n_eAnd, n_eOr, n_eNot, n_eChain, n_tVal, n_tNot, n_tAnd, n_tOr, n_tTrue,
 n_sSeq, n_sIf, n_sNil, n_sRet, n_sExpr, n_sBreak, n_sCont, n_sSet, n_sSetO, n_sSetZ, n_sFrz, n_sFor, n_gN, pq2_e, n_sPar, n_sParFG, n_sParGF, n_sParFF, n_sP3, n_sP4, n_eTupR, n_eLstR, n_eRevT, q_revT, n_sAsg, n_gTn_t, n_gTn_k, n_gsCons, n_gsNil, n_eLC, n_iSeq, n_seq_s, n_seq_l, n_seq_t, n_seq_k,
 rq1_e, rq2_e, n_iRng1m, n_iRng2m, n_eSl, n_oNone, n_oSome, n_eMeth, n_eRev, apQ_e, n_sAppend, n_sAug, n_fnM, n_ret, n_ask, n_dTuple, cif_t, cif_f, isB_bl, isI_int, optP_s, hasT,
 getS, setS, frzS, startE, slK, wipeE, put0, put1, put2, put3, q_add_i, q_add_s, q_add_t, q_add_l, q_sub, q_mul_i, q_mul_s, q_mod, q_neg, q_lt, q_le, q_gt, q_ge, q_eq_i, q_ne_i, q_eq_s, q_ne_s, q_is_bb, q_is_bn, q_is_in, q_is_sn, q_is_tn, q_is_nn, q_isn_bb, q_isn_bn, q_isn_in, q_isn_sn, q_isn_tn, q_isn_nn,
 q_it_l, q_it_t, q_it_k, q_it_s, at0, at1, at2, at3, atm1_1, atm1_2, atm1_a, q_len_s, q_len_l, q_len_t, q_isi, q_int, q_str, ty_int, ty_str, ty_bl, ty_lst, ty_tup, ty_kt, ty_non, isiT, q_sl_s, q_sl_t, q_sl_l,
 n_iZipU, n_iEnU, eqU_l, zqU_ll, zqU_lt, zqU_ls, eqU_t, zqU_tl, zqU_tt, zqU_ts, eqU_s, zqU_sl, zqU_st, zqU_ss, eqU_k,
 List.map_cons, List.map_nil, List.length_cons, List.length_nil, List.cons_append, List.nil_append, List.append_nil, List.replicate_zero, List.replicate_succ, Nat.reduceAdd, Nat.reduceSub, Nat.reduceEqDiff, Nat.reduceLeDiff, Int.reduceAdd, Int.reduceSub, Int.reduceMul, Int.reduceMod, Int.reduceNeg, Int.reduceLT, Int.reduceLE, Int.reduceBEq, decide_true, decide_false, Bool.not_true, Bool.not_false, true_and, and_true, Nat.zero_add]
  have eb : ∀ {x y : Bool} {Q : D → Prop}, Q (.bl (x == y)) → dEq (.bl x) (.bl y) Q := fun h => ⟨⟨okD_bl, okD_bl⟩, h⟩
  by_cases a0 : 0 ≤ a
  · by_cases b0 : 0 ≤ b
    · rw [decide_eq_true a0, decide_eq_true b0]
      simp only [cif_t]
      have p := pos_nn a0 b0
      by_cases a1 : 0 < a
      · rw [decide_eq_true a1]
        rw [sg_one (by omega) p] at h
        exact h
      · rw [decide_eq_false a1]
        by_cases b1 : 0 < b
        · rw [decide_eq_true b1]
          rw [sg_one (by omega) p] at h
          exact h
        · rw [decide_eq_false b1]
          rw [sg_zero.mpr (by omega)] at h
          exact h
    · rw [decide_eq_true a0, decide_eq_false b0, decide_eq_true (show b ≤ 0 by omega)]
      simp only [cif_t, cif_f]
      by_cases a1 : a ≤ 0
      · rw [decide_eq_true a1]
        simp only [cif_t, cif_f]
        rw [sg_m1 (fun p => by
          have az : a = 0 := by omega
          subst az
          have nn := sq_nn b
          have bz : b * b ≠ 0 := fun z => by rcases Int.mul_eq_zero.mp z with z | z <;> omega
          rcases p with ⟨p, q⟩ | ⟨p, q⟩ <;> omega)] at h
        exact h
      · rw [decide_eq_false a1, decide_eq_true (show 0 < a by omega)]
        simp only [cif_t, cif_f]
        refine ⟨.inl ha, .inr hb, .inr hb, eb ?_⟩
        by_cases g : 2 * b * b < a * a
        · rw [decide_eq_true g]
          rw [sg_one (by omega) (.inl ⟨a0, by rw [← Int.mul_assoc]; omega⟩)] at h
          exact h
        · rw [decide_eq_false g]
          rw [sg_m1 (fun p => by
            rw [Int.mul_assoc] at g
            rcases p with ⟨p, q⟩ | ⟨p, q⟩
            · have := irr (show a * a = 2 * (b * b) by omega)
              omega
            · omega)] at h
          exact h
  · rw [decide_eq_false a0, decide_eq_true (show a ≤ 0 by omega)]
    simp only [cif_t, cif_f]
    by_cases b1 : b ≤ 0
    · rw [decide_eq_true b1]
      simp only [cif_t, cif_f]
      rw [sg_m1 (fun p => by
          have na : 0 < a * a := Int.mul_pos_of_neg_of_neg (by omega) (by omega)
          rcases p with ⟨p, q⟩ | ⟨p, q⟩
          · omega
          · have : b = 0 := by omega
            subst this
            omega)] at h
      exact h
    · rw [decide_eq_false b1, decide_eq_false (show ¬ 0 < a by omega)]
      simp only [cif_t, cif_f]
      refine ⟨.inl ha, .inr hb, .inr hb, eb ?_⟩
      by_cases g : 2 * b * b < a * a
      · rw [decide_eq_true g]
        rw [sg_m1 (fun p => by
            rw [Int.mul_assoc] at g
            rcases p with ⟨p, q⟩ | ⟨p, q⟩ <;> omega)] at h
        exact h
      · rw [decide_eq_false g]
        rw [sg_one (by omega) (.inr ⟨by omega, by rw [← Int.mul_assoc]; omega⟩)] at h
        exact h
theorem rt_nn (b : Int) : 0 ≤ 2 * b * b := by
  rw [Int.mul_assoc]
  have := sq_nn b
  omega
theorem sq_bnd {b m : Int} (h1 : -m ≤ b) (h2 : b ≤ m) : b * b ≤ m * m := by
  rcases Int.le_total 0 b with h | h
  · exact sq_mono h h2
  · have := sq_mono (x := -b) (y := m) (by omega) (by omega)
    have e : -b * -b = b * b := by grind
    omega
theorem sp_whole_in {a b : Int} (hb1 : -2147483647 ≤ b) (hb2 : b ≤ 2147483647) (h : ∀ w, posS (a - 2 * w) b → ¬ posS (a - 2 * w - 2) b → P (.int w)) : m_whole_in [nD a b] P := by
  simp only [m_whole_in, S_whole_in, nD, n_eVar, n_eVarB, varQ_fz, varB_fz, varB_ow, n_eC, n_eCall, n_aCons, n_aNil, n_eBin, n_eUn, n_eTup, n_eLst, n_eIf, n_eAnd, n_eOr, n_eNot, n_eChain, n_tVal, n_tNot, n_tAnd, n_tOr, n_tTrue,
 n_sSeq, n_sIf, n_sNil, n_sRet, n_sExpr, n_sBreak, n_sCont, n_sSet, n_sSetO, n_sSetZ, n_sFrz, n_sFor, n_gN, pq2_e, n_sPar, n_sParFG, n_sParGF, n_sParFF, n_sP3, n_sP4, n_eTupR, n_eLstR, n_eRevT, q_revT, n_sAsg, n_gTn_t, n_gTn_k, n_gsCons, n_gsNil, n_eLC, n_iSeq, n_seq_s, n_seq_l, n_seq_t, n_seq_k,
 rq1_e, rq2_e, n_iRng1m, n_iRng2m, n_eSl, n_oNone, n_oSome, n_eMeth, n_eRev, apQ_e, n_sAppend, n_sAug, n_fnM, n_ret, n_ask, n_dTuple, cif_t, cif_f, isB_bl, isI_int, optP_s, hasT,
 getS, setS, frzS, startE, slK, wipeE, put0, put1, put2, put3, q_add_i, q_add_s, q_add_t, q_add_l, q_sub, q_mul_i, q_mul_s, q_mod, q_neg, q_lt, q_le, q_gt, q_ge, q_eq_i, q_ne_i, q_eq_s, q_ne_s, q_is_bb, q_is_bn, q_is_in, q_is_sn, q_is_tn, q_is_nn, q_isn_bb, q_isn_bn, q_isn_in, q_isn_sn, q_isn_tn, q_isn_nn,
 q_it_l, q_it_t, q_it_k, q_it_s, at0, at1, at2, at3, atm1_1, atm1_2, atm1_a, q_len_s, q_len_l, q_len_t, q_isi, q_int, q_str, ty_int, ty_str, ty_bl, ty_lst, ty_tup, ty_kt, ty_non, isiT, q_sl_s, q_sl_t, q_sl_l,
 n_iZipU, n_iEnU, eqU_l, zqU_ll, zqU_lt, zqU_ls, eqU_t, zqU_tl, zqU_tt, zqU_ts, eqU_s, zqU_sl, zqU_st, zqU_ss, eqU_k,
 List.map_cons, List.map_nil, List.length_cons, List.length_nil, List.cons_append, List.nil_append, List.append_nil, List.replicate_zero, List.replicate_succ, Nat.reduceAdd, Nat.reduceSub, Nat.reduceEqDiff, Nat.reduceLeDiff, Int.reduceAdd, Int.reduceSub, Int.reduceMul, Int.reduceMod, Int.reduceNeg, Int.reduceLT, Int.reduceLE, Int.reduceBEq, decide_true, decide_false, Bool.not_true, Bool.not_false, true_and, and_true, Nat.zero_add]
  have sb := sq_bnd hb1 hb2
  have e2 : 2 * b * b = 2 * (b * b) := Int.mul_assoc _ _ _
  refine ⟨.inr ?_, .inr ?_, ?_⟩
  · unfold small; omega
  · unfold small; omega
  try simp only [n_eVar, n_eVarB, varQ_fz, varB_fz, varB_ow, n_eC, n_eCall, n_aCons, n_aNil, n_eBin, n_eUn, n_eTup, n_eLst, n_eIf, n_eAnd, n_eOr, n_eNot, n_eChain, n_tVal, n_tNot, n_tAnd, n_tOr, n_tTrue,
 n_sSeq, n_sIf, n_sNil, n_sRet, n_sExpr, n_sBreak, n_sCont, n_sSet, n_sSetO, n_sSetZ, n_sFrz, n_sFor, n_gN, pq2_e, n_sPar, n_sParFG, n_sParGF, n_sParFF, n_sP3, n_sP4, n_eTupR, n_eLstR, n_eRevT, q_revT, n_sAsg, n_gTn_t, n_gTn_k, n_gsCons, n_gsNil, n_eLC, n_iSeq, n_seq_s, n_seq_l, n_seq_t, n_seq_k,
 rq1_e, rq2_e, n_iRng1m, n_iRng2m, n_eSl, n_oNone, n_oSome, n_eMeth, n_eRev, apQ_e, n_sAppend, n_sAug, n_fnM, n_ret, n_ask, n_dTuple, cif_t, cif_f, isB_bl, isI_int, optP_s, hasT,
 getS, setS, frzS, startE, slK, wipeE, put0, put1, put2, put3, q_add_i, q_add_s, q_add_t, q_add_l, q_sub, q_mul_i, q_mul_s, q_mod, q_neg, q_lt, q_le, q_gt, q_ge, q_eq_i, q_ne_i, q_eq_s, q_ne_s, q_is_bb, q_is_bn, q_is_in, q_is_sn, q_is_tn, q_is_nn, q_isn_bb, q_isn_bn, q_isn_in, q_isn_sn, q_isn_tn, q_isn_nn,
 q_it_l, q_it_t, q_it_k, q_it_s, at0, at1, at2, at3, atm1_1, atm1_2, atm1_a, q_len_s, q_len_l, q_len_t, q_isi, q_int, q_str, ty_int, ty_str, ty_bl, ty_lst, ty_tup, ty_kt, ty_non, isiT, q_sl_s, q_sl_t, q_sl_l,
 n_iZipU, n_iEnU, eqU_l, zqU_ll, zqU_lt, zqU_ls, eqU_t, zqU_tl, zqU_tt, zqU_ts, eqU_s, zqU_sl, zqU_st, zqU_ss, eqU_k,
 List.map_cons, List.map_nil, List.length_cons, List.length_nil, List.cons_append, List.nil_append, List.append_nil, List.replicate_zero, List.replicate_succ, Nat.reduceAdd, Nat.reduceSub, Nat.reduceEqDiff, Nat.reduceLeDiff, Int.reduceAdd, Int.reduceSub, Int.reduceMul, Int.reduceMod, Int.reduceNeg, Int.reduceLT, Int.reduceLE, Int.reduceBEq, decide_true, decide_false, Bool.not_true, Bool.not_false, true_and, and_true, Nat.zero_add]
  refine sp_root_below (rt_nn b) (by omega) fun r hr => ?_
  rw [e2] at hr
  have cr : ∀ x, posS x b ↔ (0 ≤ b ∧ -r ≤ x) ∨ (b < 0 ∧ r < x) := fun x => pos_crit hr
  simp only [n_eVar, n_eVarB, varQ_fz, varB_fz, varB_ow, n_eC, n_eCall, n_aCons, n_aNil, n_eBin, n_eUn, n_eTup, n_eLst, n_eIf, n_eAnd, n_eOr, n_eNot, n_eChain, n_tVal, n_tNot, n_tAnd, n_tOr, n_tTrue,
 n_sSeq, n_sIf, n_sNil, n_sRet, n_sExpr, n_sBreak, n_sCont, n_sSet, n_sSetO, n_sSetZ, n_sFrz, n_sFor, n_gN, pq2_e, n_sPar, n_sParFG, n_sParGF, n_sParFF, n_sP3, n_sP4, n_eTupR, n_eLstR, n_eRevT, q_revT, n_sAsg, n_gTn_t, n_gTn_k, n_gsCons, n_gsNil, n_eLC, n_iSeq, n_seq_s, n_seq_l, n_seq_t, n_seq_k,
 rq1_e, rq2_e, n_iRng1m, n_iRng2m, n_eSl, n_oNone, n_oSome, n_eMeth, n_eRev, apQ_e, n_sAppend, n_sAug, n_fnM, n_ret, n_ask, n_dTuple, cif_t, cif_f, isB_bl, isI_int, optP_s, hasT,
 getS, setS, frzS, startE, slK, wipeE, put0, put1, put2, put3, q_add_i, q_add_s, q_add_t, q_add_l, q_sub, q_mul_i, q_mul_s, q_mod, q_neg, q_lt, q_le, q_gt, q_ge, q_eq_i, q_ne_i, q_eq_s, q_ne_s, q_is_bb, q_is_bn, q_is_in, q_is_sn, q_is_tn, q_is_nn, q_isn_bb, q_isn_bn, q_isn_in, q_isn_sn, q_isn_tn, q_isn_nn,
 q_it_l, q_it_t, q_it_k, q_it_s, at0, at1, at2, at3, atm1_1, atm1_2, atm1_a, q_len_s, q_len_l, q_len_t, q_isi, q_int, q_str, ty_int, ty_str, ty_bl, ty_lst, ty_tup, ty_kt, ty_non, isiT, q_sl_s, q_sl_t, q_sl_l,
 n_iZipU, n_iEnU, eqU_l, zqU_ll, zqU_lt, zqU_ls, eqU_t, zqU_tl, zqU_tt, zqU_ts, eqU_s, zqU_sl, zqU_st, zqU_ss, eqU_k,
 List.map_cons, List.map_nil, List.length_cons, List.length_nil, List.cons_append, List.nil_append, List.append_nil, List.replicate_zero, List.replicate_succ, Nat.reduceAdd, Nat.reduceSub, Nat.reduceEqDiff, Nat.reduceLeDiff, Int.reduceAdd, Int.reduceSub, Int.reduceMul, Int.reduceMod, Int.reduceNeg, Int.reduceLT, Int.reduceLE, Int.reduceBEq, decide_true, decide_false, Bool.not_true, Bool.not_false, true_and, and_true, Nat.zero_add]
  by_cases b0 : b ≥ 0
  · rw [decide_eq_true b0]
    simp only [n_eVar, n_eVarB, varQ_fz, varB_fz, varB_ow, n_eC, n_eCall, n_aCons, n_aNil, n_eBin, n_eUn, n_eTup, n_eLst, n_eIf, n_eAnd, n_eOr, n_eNot, n_eChain, n_tVal, n_tNot, n_tAnd, n_tOr, n_tTrue,
 n_sSeq, n_sIf, n_sNil, n_sRet, n_sExpr, n_sBreak, n_sCont, n_sSet, n_sSetO, n_sSetZ, n_sFrz, n_sFor, n_gN, pq2_e, n_sPar, n_sParFG, n_sParGF, n_sParFF, n_sP3, n_sP4, n_eTupR, n_eLstR, n_eRevT, q_revT, n_sAsg, n_gTn_t, n_gTn_k, n_gsCons, n_gsNil, n_eLC, n_iSeq, n_seq_s, n_seq_l, n_seq_t, n_seq_k,
 rq1_e, rq2_e, n_iRng1m, n_iRng2m, n_eSl, n_oNone, n_oSome, n_eMeth, n_eRev, apQ_e, n_sAppend, n_sAug, n_fnM, n_ret, n_ask, n_dTuple, cif_t, cif_f, isB_bl, isI_int, optP_s, hasT,
 getS, setS, frzS, startE, slK, wipeE, put0, put1, put2, put3, q_add_i, q_add_s, q_add_t, q_add_l, q_sub, q_mul_i, q_mul_s, q_mod, q_neg, q_lt, q_le, q_gt, q_ge, q_eq_i, q_ne_i, q_eq_s, q_ne_s, q_is_bb, q_is_bn, q_is_in, q_is_sn, q_is_tn, q_is_nn, q_isn_bb, q_isn_bn, q_isn_in, q_isn_sn, q_isn_tn, q_isn_nn,
 q_it_l, q_it_t, q_it_k, q_it_s, at0, at1, at2, at3, atm1_1, atm1_2, atm1_a, q_len_s, q_len_l, q_len_t, q_isi, q_int, q_str, ty_int, ty_str, ty_bl, ty_lst, ty_tup, ty_kt, ty_non, isiT, q_sl_s, q_sl_t, q_sl_l,
 n_iZipU, n_iEnU, eqU_l, zqU_ll, zqU_lt, zqU_ls, eqU_t, zqU_tl, zqU_tt, zqU_ts, eqU_s, zqU_sl, zqU_st, zqU_ss, eqU_k,
 List.map_cons, List.map_nil, List.length_cons, List.length_nil, List.cons_append, List.nil_append, List.append_nil, List.replicate_zero, List.replicate_succ, Nat.reduceAdd, Nat.reduceSub, Nat.reduceEqDiff, Nat.reduceLeDiff, Int.reduceAdd, Int.reduceSub, Int.reduceMul, Int.reduceMod, Int.reduceNeg, Int.reduceLT, Int.reduceLE, Int.reduceBEq, decide_true, decide_false, Bool.not_true, Bool.not_false, true_and, and_true, Nat.zero_add]
    refine ⟨by omega, h _ ((cr _).mpr (.inl ⟨b0, by omega⟩)) fun p => ?_⟩
    rcases (cr _).mp p with ⟨_, z⟩ | ⟨z, _⟩ <;> omega
  · rw [decide_eq_false b0]
    simp only [n_eVar, n_eVarB, varQ_fz, varB_fz, varB_ow, n_eC, n_eCall, n_aCons, n_aNil, n_eBin, n_eUn, n_eTup, n_eLst, n_eIf, n_eAnd, n_eOr, n_eNot, n_eChain, n_tVal, n_tNot, n_tAnd, n_tOr, n_tTrue,
 n_sSeq, n_sIf, n_sNil, n_sRet, n_sExpr, n_sBreak, n_sCont, n_sSet, n_sSetO, n_sSetZ, n_sFrz, n_sFor, n_gN, pq2_e, n_sPar, n_sParFG, n_sParGF, n_sParFF, n_sP3, n_sP4, n_eTupR, n_eLstR, n_eRevT, q_revT, n_sAsg, n_gTn_t, n_gTn_k, n_gsCons, n_gsNil, n_eLC, n_iSeq, n_seq_s, n_seq_l, n_seq_t, n_seq_k,
 rq1_e, rq2_e, n_iRng1m, n_iRng2m, n_eSl, n_oNone, n_oSome, n_eMeth, n_eRev, apQ_e, n_sAppend, n_sAug, n_fnM, n_ret, n_ask, n_dTuple, cif_t, cif_f, isB_bl, isI_int, optP_s, hasT,
 getS, setS, frzS, startE, slK, wipeE, put0, put1, put2, put3, q_add_i, q_add_s, q_add_t, q_add_l, q_sub, q_mul_i, q_mul_s, q_mod, q_neg, q_lt, q_le, q_gt, q_ge, q_eq_i, q_ne_i, q_eq_s, q_ne_s, q_is_bb, q_is_bn, q_is_in, q_is_sn, q_is_tn, q_is_nn, q_isn_bb, q_isn_bn, q_isn_in, q_isn_sn, q_isn_tn, q_isn_nn,
 q_it_l, q_it_t, q_it_k, q_it_s, at0, at1, at2, at3, atm1_1, atm1_2, atm1_a, q_len_s, q_len_l, q_len_t, q_isi, q_int, q_str, ty_int, ty_str, ty_bl, ty_lst, ty_tup, ty_kt, ty_non, isiT, q_sl_s, q_sl_t, q_sl_l,
 n_iZipU, n_iEnU, eqU_l, zqU_ll, zqU_lt, zqU_ls, eqU_t, zqU_tl, zqU_tt, zqU_ts, eqU_s, zqU_sl, zqU_st, zqU_ss, eqU_k,
 List.map_cons, List.map_nil, List.length_cons, List.length_nil, List.cons_append, List.nil_append, List.append_nil, List.replicate_zero, List.replicate_succ, Nat.reduceAdd, Nat.reduceSub, Nat.reduceEqDiff, Nat.reduceLeDiff, Int.reduceAdd, Int.reduceSub, Int.reduceMul, Int.reduceMod, Int.reduceNeg, Int.reduceLT, Int.reduceLE, Int.reduceBEq, decide_true, decide_false, Bool.not_true, Bool.not_false, true_and, and_true, Nat.zero_add]
    refine ⟨by omega, h _ ((cr _).mpr (.inr ⟨by omega, by omega⟩)) fun p => ?_⟩
    rcases (cr _).mp p with ⟨z, _⟩ | ⟨_, z⟩ <;> omega
/-- how great the second part may be for the law's sign -/
theorem sp_law_sign {a b : Int} (hb1 : -3000000000000000000 ≤ b) (hb2 : b ≤ 3000000000000000000) (h : P (.int (sg a b))) : m_law_sign [nD a b] P := by
  simp only [m_law_sign, S_law_sign, nD, n_eVar, n_eVarB, varQ_fz, varB_fz, varB_ow, n_eC, n_eCall, n_aCons, n_aNil, n_eBin, n_eUn, n_eTup, n_eLst, n_eIf, n_eAnd, n_eOr, n_eNot, n_eChain, n_tVal, n_tNot, n_tAnd, n_tOr, n_tTrue,
 n_sSeq, n_sIf, n_sNil, n_sRet, n_sExpr, n_sBreak, n_sCont, n_sSet, n_sSetO, n_sSetZ, n_sFrz, n_sFor, n_gN, pq2_e, n_sPar, n_sParFG, n_sParGF, n_sParFF, n_sP3, n_sP4, n_eTupR, n_eLstR, n_eRevT, q_revT, n_sAsg, n_gTn_t, n_gTn_k, n_gsCons, n_gsNil, n_eLC, n_iSeq, n_seq_s, n_seq_l, n_seq_t, n_seq_k,
 rq1_e, rq2_e, n_iRng1m, n_iRng2m, n_eSl, n_oNone, n_oSome, n_eMeth, n_eRev, apQ_e, n_sAppend, n_sAug, n_fnM, n_ret, n_ask, n_dTuple, cif_t, cif_f, isB_bl, isI_int, optP_s, hasT,
 getS, setS, frzS, startE, slK, wipeE, put0, put1, put2, put3, q_add_i, q_add_s, q_add_t, q_add_l, q_sub, q_mul_i, q_mul_s, q_mod, q_neg, q_lt, q_le, q_gt, q_ge, q_eq_i, q_ne_i, q_eq_s, q_ne_s, q_is_bb, q_is_bn, q_is_in, q_is_sn, q_is_tn, q_is_nn, q_isn_bb, q_isn_bn, q_isn_in, q_isn_sn, q_isn_tn, q_isn_nn,
 q_it_l, q_it_t, q_it_k, q_it_s, at0, at1, at2, at3, atm1_1, atm1_2, atm1_a, q_len_s, q_len_l, q_len_t, q_isi, q_int, q_str, ty_int, ty_str, ty_bl, ty_lst, ty_tup, ty_kt, ty_non, isiT, q_sl_s, q_sl_t, q_sl_l,
 n_iZipU, n_iEnU, eqU_l, zqU_ll, zqU_lt, zqU_ls, eqU_t, zqU_tl, zqU_tt, zqU_ts, eqU_s, zqU_sl, zqU_st, zqU_ss, eqU_k,
 List.map_cons, List.map_nil, List.length_cons, List.length_nil, List.cons_append, List.nil_append, List.append_nil, List.replicate_zero, List.replicate_succ, Nat.reduceAdd, Nat.reduceSub, Nat.reduceEqDiff, Nat.reduceLeDiff, Int.reduceAdd, Int.reduceSub, Int.reduceMul, Int.reduceMod, Int.reduceNeg, Int.reduceLT, Int.reduceLE, Int.reduceBEq, decide_true, decide_false, Bool.not_true, Bool.not_false, true_and, and_true, Nat.zero_add]
  have sb := sq_bnd hb1 hb2
  have e2 : 2 * b * b = 2 * (b * b) := Int.mul_assoc _ _ _
  have s1 : small b := by unfold small; omega
  refine ⟨.inr s1, .inr s1, sp_law_root (rt_nn b) (by omega) fun r hr => ?_⟩
  rw [e2] at hr
  have cr : posS a b ↔ (0 ≤ b ∧ -r ≤ a) ∨ (b < 0 ∧ r < a) := pos_crit hr
  simp only [n_eVar, n_eVarB, varQ_fz, varB_fz, varB_ow, n_eC, n_eCall, n_aCons, n_aNil, n_eBin, n_eUn, n_eTup, n_eLst, n_eIf, n_eAnd, n_eOr, n_eNot, n_eChain, n_tVal, n_tNot, n_tAnd, n_tOr, n_tTrue,
 n_sSeq, n_sIf, n_sNil, n_sRet, n_sExpr, n_sBreak, n_sCont, n_sSet, n_sSetO, n_sSetZ, n_sFrz, n_sFor, n_gN, pq2_e, n_sPar, n_sParFG, n_sParGF, n_sParFF, n_sP3, n_sP4, n_eTupR, n_eLstR, n_eRevT, q_revT, n_sAsg, n_gTn_t, n_gTn_k, n_gsCons, n_gsNil, n_eLC, n_iSeq, n_seq_s, n_seq_l, n_seq_t, n_seq_k,
 rq1_e, rq2_e, n_iRng1m, n_iRng2m, n_eSl, n_oNone, n_oSome, n_eMeth, n_eRev, apQ_e, n_sAppend, n_sAug, n_fnM, n_ret, n_ask, n_dTuple, cif_t, cif_f, isB_bl, isI_int, optP_s, hasT,
 getS, setS, frzS, startE, slK, wipeE, put0, put1, put2, put3, q_add_i, q_add_s, q_add_t, q_add_l, q_sub, q_mul_i, q_mul_s, q_mod, q_neg, q_lt, q_le, q_gt, q_ge, q_eq_i, q_ne_i, q_eq_s, q_ne_s, q_is_bb, q_is_bn, q_is_in, q_is_sn, q_is_tn, q_is_nn, q_isn_bb, q_isn_bn, q_isn_in, q_isn_sn, q_isn_tn, q_isn_nn,
 q_it_l, q_it_t, q_it_k, q_it_s, at0, at1, at2, at3, atm1_1, atm1_2, atm1_a, q_len_s, q_len_l, q_len_t, q_isi, q_int, q_str, ty_int, ty_str, ty_bl, ty_lst, ty_tup, ty_kt, ty_non, isiT, q_sl_s, q_sl_t, q_sl_l,
 n_iZipU, n_iEnU, eqU_l, zqU_ll, zqU_lt, zqU_ls, eqU_t, zqU_tl, zqU_tt, zqU_ts, eqU_s, zqU_sl, zqU_st, zqU_ss, eqU_k,
 List.map_cons, List.map_nil, List.length_cons, List.length_nil, List.cons_append, List.nil_append, List.append_nil, List.replicate_zero, List.replicate_succ, Nat.reduceAdd, Nat.reduceSub, Nat.reduceEqDiff, Nat.reduceLeDiff, Int.reduceAdd, Int.reduceSub, Int.reduceMul, Int.reduceMod, Int.reduceNeg, Int.reduceLT, Int.reduceLE, Int.reduceBEq, decide_true, decide_false, Bool.not_true, Bool.not_false, true_and, and_true, Nat.zero_add]
  rcases Int.lt_trichotomy b 0 with c | c | c
  · rw [show (b == 0) = false by simp; omega, decide_eq_false (show ¬ b > 0 by omega)]
    simp only [n_eVar, n_eVarB, varQ_fz, varB_fz, varB_ow, n_eC, n_eCall, n_aCons, n_aNil, n_eBin, n_eUn, n_eTup, n_eLst, n_eIf, n_eAnd, n_eOr, n_eNot, n_eChain, n_tVal, n_tNot, n_tAnd, n_tOr, n_tTrue,
 n_sSeq, n_sIf, n_sNil, n_sRet, n_sExpr, n_sBreak, n_sCont, n_sSet, n_sSetO, n_sSetZ, n_sFrz, n_sFor, n_gN, pq2_e, n_sPar, n_sParFG, n_sParGF, n_sParFF, n_sP3, n_sP4, n_eTupR, n_eLstR, n_eRevT, q_revT, n_sAsg, n_gTn_t, n_gTn_k, n_gsCons, n_gsNil, n_eLC, n_iSeq, n_seq_s, n_seq_l, n_seq_t, n_seq_k,
 rq1_e, rq2_e, n_iRng1m, n_iRng2m, n_eSl, n_oNone, n_oSome, n_eMeth, n_eRev, apQ_e, n_sAppend, n_sAug, n_fnM, n_ret, n_ask, n_dTuple, cif_t, cif_f, isB_bl, isI_int, optP_s, hasT,
 getS, setS, frzS, startE, slK, wipeE, put0, put1, put2, put3, q_add_i, q_add_s, q_add_t, q_add_l, q_sub, q_mul_i, q_mul_s, q_mod, q_neg, q_lt, q_le, q_gt, q_ge, q_eq_i, q_ne_i, q_eq_s, q_ne_s, q_is_bb, q_is_bn, q_is_in, q_is_sn, q_is_tn, q_is_nn, q_isn_bb, q_isn_bn, q_isn_in, q_isn_sn, q_isn_tn, q_isn_nn,
 q_it_l, q_it_t, q_it_k, q_it_s, at0, at1, at2, at3, atm1_1, atm1_2, atm1_a, q_len_s, q_len_l, q_len_t, q_isi, q_int, q_str, ty_int, ty_str, ty_bl, ty_lst, ty_tup, ty_kt, ty_non, isiT, q_sl_s, q_sl_t, q_sl_l,
 n_iZipU, n_iEnU, eqU_l, zqU_ll, zqU_lt, zqU_ls, eqU_t, zqU_tl, zqU_tt, zqU_ts, eqU_s, zqU_sl, zqU_st, zqU_ss, eqU_k,
 List.map_cons, List.map_nil, List.length_cons, List.length_nil, List.cons_append, List.nil_append, List.append_nil, List.replicate_zero, List.replicate_succ, Nat.reduceAdd, Nat.reduceSub, Nat.reduceEqDiff, Nat.reduceLeDiff, Int.reduceAdd, Int.reduceSub, Int.reduceMul, Int.reduceMod, Int.reduceNeg, Int.reduceLT, Int.reduceLE, Int.reduceBEq, decide_true, decide_false, Bool.not_true, Bool.not_false, true_and, and_true, Nat.zero_add]
    by_cases d : a > r
    · rw [decide_eq_true d]
      rw [sg_one (by omega) (cr.mpr (.inr ⟨c, d⟩))] at h
      exact h
    · rw [decide_eq_false d]
      rw [sg_m1 (fun p => by rcases cr.mp p with ⟨z, _⟩ | ⟨_, z⟩ <;> omega)] at h
      exact h
  · subst c
    have r0 : r = 0 := rt_uniq hr ⟨by omega, by omega, by omega⟩
    subst r0
    rw [show ((0 : Int) == 0) = true from rfl]
    simp only [n_eVar, n_eVarB, varQ_fz, varB_fz, varB_ow, n_eC, n_eCall, n_aCons, n_aNil, n_eBin, n_eUn, n_eTup, n_eLst, n_eIf, n_eAnd, n_eOr, n_eNot, n_eChain, n_tVal, n_tNot, n_tAnd, n_tOr, n_tTrue,
 n_sSeq, n_sIf, n_sNil, n_sRet, n_sExpr, n_sBreak, n_sCont, n_sSet, n_sSetO, n_sSetZ, n_sFrz, n_sFor, n_gN, pq2_e, n_sPar, n_sParFG, n_sParGF, n_sParFF, n_sP3, n_sP4, n_eTupR, n_eLstR, n_eRevT, q_revT, n_sAsg, n_gTn_t, n_gTn_k, n_gsCons, n_gsNil, n_eLC, n_iSeq, n_seq_s, n_seq_l, n_seq_t, n_seq_k,
 rq1_e, rq2_e, n_iRng1m, n_iRng2m, n_eSl, n_oNone, n_oSome, n_eMeth, n_eRev, apQ_e, n_sAppend, n_sAug, n_fnM, n_ret, n_ask, n_dTuple, cif_t, cif_f, isB_bl, isI_int, optP_s, hasT,
 getS, setS, frzS, startE, slK, wipeE, put0, put1, put2, put3, q_add_i, q_add_s, q_add_t, q_add_l, q_sub, q_mul_i, q_mul_s, q_mod, q_neg, q_lt, q_le, q_gt, q_ge, q_eq_i, q_ne_i, q_eq_s, q_ne_s, q_is_bb, q_is_bn, q_is_in, q_is_sn, q_is_tn, q_is_nn, q_isn_bb, q_isn_bn, q_isn_in, q_isn_sn, q_isn_tn, q_isn_nn,
 q_it_l, q_it_t, q_it_k, q_it_s, at0, at1, at2, at3, atm1_1, atm1_2, atm1_a, q_len_s, q_len_l, q_len_t, q_isi, q_int, q_str, ty_int, ty_str, ty_bl, ty_lst, ty_tup, ty_kt, ty_non, isiT, q_sl_s, q_sl_t, q_sl_l,
 n_iZipU, n_iEnU, eqU_l, zqU_ll, zqU_lt, zqU_ls, eqU_t, zqU_tl, zqU_tt, zqU_ts, eqU_s, zqU_sl, zqU_st, zqU_ss, eqU_k,
 List.map_cons, List.map_nil, List.length_cons, List.length_nil, List.cons_append, List.nil_append, List.append_nil, List.replicate_zero, List.replicate_succ, Nat.reduceAdd, Nat.reduceSub, Nat.reduceEqDiff, Nat.reduceLeDiff, Int.reduceAdd, Int.reduceSub, Int.reduceMul, Int.reduceMod, Int.reduceNeg, Int.reduceLT, Int.reduceLE, Int.reduceBEq, decide_true, decide_false, Bool.not_true, Bool.not_false, true_and, and_true, Nat.zero_add]
    by_cases d : a > 0
    · rw [decide_eq_true d]
      rw [sg_one (by omega) (pos_nn (by omega) (by omega))] at h
      exact h
    · rw [decide_eq_false d]
      by_cases f : a < 0
      · rw [decide_eq_true f]
        rw [sg_m1 (fun p => by rcases cr.mp p with ⟨_, z⟩ | ⟨z, _⟩ <;> omega)] at h
        exact h
      · rw [decide_eq_false f]
        rw [sg_zero.mpr (by omega)] at h
        exact h
  · rw [show (b == 0) = false by simp; omega, decide_eq_true (show b > 0 by omega)]
    simp only [n_eVar, n_eVarB, varQ_fz, varB_fz, varB_ow, n_eC, n_eCall, n_aCons, n_aNil, n_eBin, n_eUn, n_eTup, n_eLst, n_eIf, n_eAnd, n_eOr, n_eNot, n_eChain, n_tVal, n_tNot, n_tAnd, n_tOr, n_tTrue,
 n_sSeq, n_sIf, n_sNil, n_sRet, n_sExpr, n_sBreak, n_sCont, n_sSet, n_sSetO, n_sSetZ, n_sFrz, n_sFor, n_gN, pq2_e, n_sPar, n_sParFG, n_sParGF, n_sParFF, n_sP3, n_sP4, n_eTupR, n_eLstR, n_eRevT, q_revT, n_sAsg, n_gTn_t, n_gTn_k, n_gsCons, n_gsNil, n_eLC, n_iSeq, n_seq_s, n_seq_l, n_seq_t, n_seq_k,
 rq1_e, rq2_e, n_iRng1m, n_iRng2m, n_eSl, n_oNone, n_oSome, n_eMeth, n_eRev, apQ_e, n_sAppend, n_sAug, n_fnM, n_ret, n_ask, n_dTuple, cif_t, cif_f, isB_bl, isI_int, optP_s, hasT,
 getS, setS, frzS, startE, slK, wipeE, put0, put1, put2, put3, q_add_i, q_add_s, q_add_t, q_add_l, q_sub, q_mul_i, q_mul_s, q_mod, q_neg, q_lt, q_le, q_gt, q_ge, q_eq_i, q_ne_i, q_eq_s, q_ne_s, q_is_bb, q_is_bn, q_is_in, q_is_sn, q_is_tn, q_is_nn, q_isn_bb, q_isn_bn, q_isn_in, q_isn_sn, q_isn_tn, q_isn_nn,
 q_it_l, q_it_t, q_it_k, q_it_s, at0, at1, at2, at3, atm1_1, atm1_2, atm1_a, q_len_s, q_len_l, q_len_t, q_isi, q_int, q_str, ty_int, ty_str, ty_bl, ty_lst, ty_tup, ty_kt, ty_non, isiT, q_sl_s, q_sl_t, q_sl_l,
 n_iZipU, n_iEnU, eqU_l, zqU_ll, zqU_lt, zqU_ls, eqU_t, zqU_tl, zqU_tt, zqU_ts, eqU_s, zqU_sl, zqU_st, zqU_ss, eqU_k,
 List.map_cons, List.map_nil, List.length_cons, List.length_nil, List.cons_append, List.nil_append, List.append_nil, List.replicate_zero, List.replicate_succ, Nat.reduceAdd, Nat.reduceSub, Nat.reduceEqDiff, Nat.reduceLeDiff, Int.reduceAdd, Int.reduceSub, Int.reduceMul, Int.reduceMod, Int.reduceNeg, Int.reduceLT, Int.reduceLE, Int.reduceBEq, decide_true, decide_false, Bool.not_true, Bool.not_false, true_and, and_true, Nat.zero_add]
    by_cases d : a ≥ -r
    · rw [decide_eq_true d]
      rw [sg_one (by omega) (cr.mpr (.inl ⟨by omega, d⟩))] at h
      exact h
    · rw [decide_eq_false d]
      rw [sg_m1 (fun p => by rcases cr.mp p with ⟨_, z⟩ | ⟨z, _⟩ <;> omega)] at h
      exact h
theorem sp_law_less {a b c d : Int} (hb1 : -3000000000000000000 ≤ b - d) (hb2 : b - d ≤ 3000000000000000000) (h : P (.bl (decide (sg (a - c) (b - d) < 0)))) : m_law_less [nD a b, nD c d] P := by
  simp only [m_law_less, S_law_less, nD, n_eVar, n_eVarB, varQ_fz, varB_fz, varB_ow, n_eC, n_eCall, n_aCons, n_aNil, n_eBin, n_eUn, n_eTup, n_eLst, n_eIf, n_eAnd, n_eOr, n_eNot, n_eChain, n_tVal, n_tNot, n_tAnd, n_tOr, n_tTrue,
 n_sSeq, n_sIf, n_sNil, n_sRet, n_sExpr, n_sBreak, n_sCont, n_sSet, n_sSetO, n_sSetZ, n_sFrz, n_sFor, n_gN, pq2_e, n_sPar, n_sParFG, n_sParGF, n_sParFF, n_sP3, n_sP4, n_eTupR, n_eLstR, n_eRevT, q_revT, n_sAsg, n_gTn_t, n_gTn_k, n_gsCons, n_gsNil, n_eLC, n_iSeq, n_seq_s, n_seq_l, n_seq_t, n_seq_k,
 rq1_e, rq2_e, n_iRng1m, n_iRng2m, n_eSl, n_oNone, n_oSome, n_eMeth, n_eRev, apQ_e, n_sAppend, n_sAug, n_fnM, n_ret, n_ask, n_dTuple, cif_t, cif_f, isB_bl, isI_int, optP_s, hasT,
 getS, setS, frzS, startE, slK, wipeE, put0, put1, put2, put3, q_add_i, q_add_s, q_add_t, q_add_l, q_sub, q_mul_i, q_mul_s, q_mod, q_neg, q_lt, q_le, q_gt, q_ge, q_eq_i, q_ne_i, q_eq_s, q_ne_s, q_is_bb, q_is_bn, q_is_in, q_is_sn, q_is_tn, q_is_nn, q_isn_bb, q_isn_bn, q_isn_in, q_isn_sn, q_isn_tn, q_isn_nn,
 q_it_l, q_it_t, q_it_k, q_it_s, at0, at1, at2, at3, atm1_1, atm1_2, atm1_a, q_len_s, q_len_l, q_len_t, q_isi, q_int, q_str, ty_int, ty_str, ty_bl, ty_lst, ty_tup, ty_kt, ty_non, isiT, q_sl_s, q_sl_t, q_sl_l,
 n_iZipU, n_iEnU, eqU_l, zqU_ll, zqU_lt, zqU_ls, eqU_t, zqU_tl, zqU_tt, zqU_ts, eqU_s, zqU_sl, zqU_st, zqU_ss, eqU_k,
 List.map_cons, List.map_nil, List.length_cons, List.length_nil, List.cons_append, List.nil_append, List.append_nil, List.replicate_zero, List.replicate_succ, Nat.reduceAdd, Nat.reduceSub, Nat.reduceEqDiff, Nat.reduceLeDiff, Int.reduceAdd, Int.reduceSub, Int.reduceMul, Int.reduceMod, Int.reduceNeg, Int.reduceLT, Int.reduceLE, Int.reduceBEq, decide_true, decide_false, Bool.not_true, Bool.not_false, true_and, and_true, Nat.zero_add]
  exact ⟨(show 2 ≤ lim by decide), sp_law_sign hb1 hb2 h⟩
end L37
set_option Elab.async false
set_option linter.all false
set_option maxRecDepth 100000
set_option maxHeartbeats 2000000
namespace L37
open G
variable {P : D → Prop}
theorem whD_t {lo hi a : Int} (h1 : lo ≤ a) (h2 : a ≤ hi) : whD lo hi (.int a) = true := by
  simp only [whD, Bool.and_eq_true]; exact ⟨decide_eq_true h1, decide_eq_true h2⟩
theorem sp_need_number {a b : Int} (h1 : -1000000000 ≤ a) (h2 : a ≤ 1000000000) (h3 : -1000000000 ≤ b) (h4 : b ≤ 1000000000) (h : P .non) : m_need_number [nD a b] P := by
  simp (decide := true) only [m_need_number, S_need_number, m_fits_number, S_fits_number, m_is_tuple_of, S_is_tuple_of, nD, c_GREAT, n_eVar, n_eVarB, varQ_fz, varB_fz, varB_ow, n_eC, n_eCall, n_aCons, n_aNil, n_eBin, n_eUn, n_eTup, n_eLst, n_eIf, n_eAnd, n_eOr, n_eNot, n_eChain, n_tVal, n_tNot, n_tAnd, n_tOr, n_tTrue,
 n_sSeq, n_sIf, n_sNil, n_sRet, n_sExpr, n_sBreak, n_sCont, n_sSet, n_sSetO, n_sSetZ, n_sFrz, n_sFor, n_gN, pq2_e, n_sPar, n_sParFG, n_sParGF, n_sParFF, n_sP3, n_sP4, n_eTupR, n_eLstR, n_eRevT, q_revT, n_sAsg, n_gTn_t, n_gTn_k, n_gsCons, n_gsNil, n_eLC, n_iSeq, n_seq_s, n_seq_l, n_seq_t, n_seq_k,
 rq1_e, rq2_e, n_iRng1m, n_iRng2m, n_eSl, n_oNone, n_oSome, n_eMeth, n_eRev, apQ_e, n_sAppend, n_sAug, n_fnM, n_ret, n_ask, n_dTuple, cif_t, cif_f, isB_bl, isI_int, optP_s, hasT,
 getS, setS, frzS, startE, slK, wipeE, put0, put1, put2, put3, q_add_i, q_add_s, q_add_t, q_add_l, q_sub, q_mul_i, q_mul_s, q_mod, q_neg, q_lt, q_le, q_gt, q_ge, q_eq_i, q_ne_i, q_eq_s, q_ne_s, q_is_bb, q_is_bn, q_is_in, q_is_sn, q_is_tn, q_is_nn, q_isn_bb, q_isn_bn, q_isn_in, q_isn_sn, q_isn_tn, q_isn_nn,
 q_it_l, q_it_t, q_it_k, q_it_s, at0, at1, at2, at3, atm1_1, atm1_2, atm1_a, q_len_s, q_len_l, q_len_t, q_isi, q_int, q_str, ty_int, ty_str, ty_bl, ty_lst, ty_tup, ty_kt, ty_non, isiT, q_sl_s, q_sl_t, q_sl_l,
 n_iZipU, n_iEnU, eqU_l, zqU_ll, zqU_lt, zqU_ls, eqU_t, zqU_tl, zqU_tt, zqU_ts, eqU_s, zqU_sl, zqU_st, zqU_ss, eqU_k,
 List.map_cons, List.map_nil, List.length_cons, List.length_nil, List.cons_append, List.nil_append, List.append_nil, List.replicate_zero, List.replicate_succ, Nat.reduceAdd, Nat.reduceSub, Nat.reduceEqDiff, Nat.reduceLeDiff, Int.reduceAdd, Int.reduceSub, Int.reduceMul, Int.reduceMod, Int.reduceNeg, Int.reduceLT, Int.reduceLE, Int.reduceBEq, decide_true, decide_false, Bool.not_true, Bool.not_false, true_and, and_true, Nat.zero_add]
  refine lc_map (fun _ => .bl true) _ (fun d hd K hK => ?_) ?_
  · simp only [List.mem_cons, List.mem_nil_iff, or_false] at hd
    simp only [n_eVar, n_eVarB, varQ_fz, varB_fz, varB_ow, n_eC, n_eCall, n_aCons, n_aNil, n_eBin, n_eUn, n_eTup, n_eLst, n_eIf, n_eAnd, n_eOr, n_eNot, n_eChain, n_tVal, n_tNot, n_tAnd, n_tOr, n_tTrue,
 n_sSeq, n_sIf, n_sNil, n_sRet, n_sExpr, n_sBreak, n_sCont, n_sSet, n_sSetO, n_sSetZ, n_sFrz, n_sFor, n_gN, pq2_e, n_sPar, n_sParFG, n_sParGF, n_sParFF, n_sP3, n_sP4, n_eTupR, n_eLstR, n_eRevT, q_revT, n_sAsg, n_gTn_t, n_gTn_k, n_gsCons, n_gsNil, n_eLC, n_iSeq, n_seq_s, n_seq_l, n_seq_t, n_seq_k,
 rq1_e, rq2_e, n_iRng1m, n_iRng2m, n_eSl, n_oNone, n_oSome, n_eMeth, n_eRev, apQ_e, n_sAppend, n_sAug, n_fnM, n_ret, n_ask, n_dTuple, cif_t, cif_f, isB_bl, isI_int, optP_s, hasT,
 getS, setS, frzS, startE, slK, wipeE, put0, put1, put2, put3, q_add_i, q_add_s, q_add_t, q_add_l, q_sub, q_mul_i, q_mul_s, q_mod, q_neg, q_lt, q_le, q_gt, q_ge, q_eq_i, q_ne_i, q_eq_s, q_ne_s, q_is_bb, q_is_bn, q_is_in, q_is_sn, q_is_tn, q_is_nn, q_isn_bb, q_isn_bn, q_isn_in, q_isn_sn, q_isn_tn, q_isn_nn,
 q_it_l, q_it_t, q_it_k, q_it_s, at0, at1, at2, at3, atm1_1, atm1_2, atm1_a, q_len_s, q_len_l, q_len_t, q_isi, q_int, q_str, ty_int, ty_str, ty_bl, ty_lst, ty_tup, ty_kt, ty_non, isiT, q_sl_s, q_sl_t, q_sl_l,
 n_iZipU, n_iEnU, eqU_l, zqU_ll, zqU_lt, zqU_ls, eqU_t, zqU_tl, zqU_tt, zqU_ts, eqU_s, zqU_sl, zqU_st, zqU_ss, eqU_k,
 List.map_cons, List.map_nil, List.length_cons, List.length_nil, List.cons_append, List.nil_append, List.append_nil, List.replicate_zero, List.replicate_succ, Nat.reduceAdd, Nat.reduceSub, Nat.reduceEqDiff, Nat.reduceLeDiff, Int.reduceAdd, Int.reduceSub, Int.reduceMul, Int.reduceMod, Int.reduceNeg, Int.reduceLT, Int.reduceLE, Int.reduceBEq, decide_true, decide_false, Bool.not_true, Bool.not_false, true_and, and_true, Nat.zero_add]
    rcases hd with rfl | rfl
    · refine sp_fits_whole rfl ?_
      rw [whD_t h1 h2]; exact hK
    · refine sp_fits_whole rfl ?_
      rw [whD_t h3 h4]; exact hK
  · simp only [List.map_cons, List.map_nil]
    rw [q_all (bs := [true, true]) rfl]
    simp only [List.all_cons, List.all_nil, id, Bool.and_self, n_eVar, n_eVarB, varQ_fz, varB_fz, varB_ow, n_eC, n_eCall, n_aCons, n_aNil, n_eBin, n_eUn, n_eTup, n_eLst, n_eIf, n_eAnd, n_eOr, n_eNot, n_eChain, n_tVal, n_tNot, n_tAnd, n_tOr, n_tTrue,
 n_sSeq, n_sIf, n_sNil, n_sRet, n_sExpr, n_sBreak, n_sCont, n_sSet, n_sSetO, n_sSetZ, n_sFrz, n_sFor, n_gN, pq2_e, n_sPar, n_sParFG, n_sParGF, n_sParFF, n_sP3, n_sP4, n_eTupR, n_eLstR, n_eRevT, q_revT, n_sAsg, n_gTn_t, n_gTn_k, n_gsCons, n_gsNil, n_eLC, n_iSeq, n_seq_s, n_seq_l, n_seq_t, n_seq_k,
 rq1_e, rq2_e, n_iRng1m, n_iRng2m, n_eSl, n_oNone, n_oSome, n_eMeth, n_eRev, apQ_e, n_sAppend, n_sAug, n_fnM, n_ret, n_ask, n_dTuple, cif_t, cif_f, isB_bl, isI_int, optP_s, hasT,
 getS, setS, frzS, startE, slK, wipeE, put0, put1, put2, put3, q_add_i, q_add_s, q_add_t, q_add_l, q_sub, q_mul_i, q_mul_s, q_mod, q_neg, q_lt, q_le, q_gt, q_ge, q_eq_i, q_ne_i, q_eq_s, q_ne_s, q_is_bb, q_is_bn, q_is_in, q_is_sn, q_is_tn, q_is_nn, q_isn_bb, q_isn_bn, q_isn_in, q_isn_sn, q_isn_tn, q_isn_nn,
 q_it_l, q_it_t, q_it_k, q_it_s, at0, at1, at2, at3, atm1_1, atm1_2, atm1_a, q_len_s, q_len_l, q_len_t, q_isi, q_int, q_str, ty_int, ty_str, ty_bl, ty_lst, ty_tup, ty_kt, ty_non, isiT, q_sl_s, q_sl_t, q_sl_l,
 n_iZipU, n_iEnU, eqU_l, zqU_ll, zqU_lt, zqU_ls, eqU_t, zqU_tl, zqU_tt, zqU_ts, eqU_s, zqU_sl, zqU_st, zqU_ss, eqU_k,
 List.map_cons, List.map_nil, List.length_cons, List.length_nil, List.cons_append, List.nil_append, List.append_nil, List.replicate_zero, List.replicate_succ, Nat.reduceAdd, Nat.reduceSub, Nat.reduceEqDiff, Nat.reduceLeDiff, Int.reduceAdd, Int.reduceSub, Int.reduceMul, Int.reduceMod, Int.reduceNeg, Int.reduceLT, Int.reduceLE, Int.reduceBEq, decide_true, decide_false, Bool.not_true, Bool.not_false, true_and, and_true, Nat.zero_add]
    exact h
theorem sp_sign_of {a b : Int} (h1 : -1000000000 ≤ a) (h2 : a ≤ 1000000000) (h3 : -1000000000 ≤ b) (h4 : b ≤ 1000000000) (h : P (.int (sg a b))) : m_sign_of [nD a b] P := by
  simp only [m_sign_of, S_sign_of, n_eVar, n_eVarB, varQ_fz, varB_fz, varB_ow, n_eC, n_eCall, n_aCons, n_aNil, n_eBin, n_eUn, n_eTup, n_eLst, n_eIf, n_eAnd, n_eOr, n_eNot, n_eChain, n_tVal, n_tNot, n_tAnd, n_tOr, n_tTrue,
 n_sSeq, n_sIf, n_sNil, n_sRet, n_sExpr, n_sBreak, n_sCont, n_sSet, n_sSetO, n_sSetZ, n_sFrz, n_sFor, n_gN, pq2_e, n_sPar, n_sParFG, n_sParGF, n_sParFF, n_sP3, n_sP4, n_eTupR, n_eLstR, n_eRevT, q_revT, n_sAsg, n_gTn_t, n_gTn_k, n_gsCons, n_gsNil, n_eLC, n_iSeq, n_seq_s, n_seq_l, n_seq_t, n_seq_k,
 rq1_e, rq2_e, n_iRng1m, n_iRng2m, n_eSl, n_oNone, n_oSome, n_eMeth, n_eRev, apQ_e, n_sAppend, n_sAug, n_fnM, n_ret, n_ask, n_dTuple, cif_t, cif_f, isB_bl, isI_int, optP_s, hasT,
 getS, setS, frzS, startE, slK, wipeE, put0, put1, put2, put3, q_add_i, q_add_s, q_add_t, q_add_l, q_sub, q_mul_i, q_mul_s, q_mod, q_neg, q_lt, q_le, q_gt, q_ge, q_eq_i, q_ne_i, q_eq_s, q_ne_s, q_is_bb, q_is_bn, q_is_in, q_is_sn, q_is_tn, q_is_nn, q_isn_bb, q_isn_bn, q_isn_in, q_isn_sn, q_isn_tn, q_isn_nn,
 q_it_l, q_it_t, q_it_k, q_it_s, at0, at1, at2, at3, atm1_1, atm1_2, atm1_a, q_len_s, q_len_l, q_len_t, q_isi, q_int, q_str, ty_int, ty_str, ty_bl, ty_lst, ty_tup, ty_kt, ty_non, isiT, q_sl_s, q_sl_t, q_sl_l,
 n_iZipU, n_iEnU, eqU_l, zqU_ll, zqU_lt, zqU_ls, eqU_t, zqU_tl, zqU_tt, zqU_ts, eqU_s, zqU_sl, zqU_st, zqU_ss, eqU_k,
 List.map_cons, List.map_nil, List.length_cons, List.length_nil, List.cons_append, List.nil_append, List.append_nil, List.replicate_zero, List.replicate_succ, Nat.reduceAdd, Nat.reduceSub, Nat.reduceEqDiff, Nat.reduceLeDiff, Int.reduceAdd, Int.reduceSub, Int.reduceMul, Int.reduceMod, Int.reduceNeg, Int.reduceLT, Int.reduceLE, Int.reduceBEq, decide_true, decide_false, Bool.not_true, Bool.not_false, true_and, and_true, Nat.zero_add]
  exact sp_need_number h1 h2 h3 h4 (sp_sign_in (by unfold small; omega) (by unfold small; omega) h)
theorem sp_whole_of {a b : Int} (h1 : -1000000000 ≤ a) (h2 : a ≤ 1000000000) (h3 : -1000000000 ≤ b) (h4 : b ≤ 1000000000) (h : ∀ w, posS (a - 2 * w) b → ¬ posS (a - 2 * w - 2) b → P (.int w)) : m_whole_of [nD a b] P := by
  simp only [m_whole_of, S_whole_of, n_eVar, n_eVarB, varQ_fz, varB_fz, varB_ow, n_eC, n_eCall, n_aCons, n_aNil, n_eBin, n_eUn, n_eTup, n_eLst, n_eIf, n_eAnd, n_eOr, n_eNot, n_eChain, n_tVal, n_tNot, n_tAnd, n_tOr, n_tTrue,
 n_sSeq, n_sIf, n_sNil, n_sRet, n_sExpr, n_sBreak, n_sCont, n_sSet, n_sSetO, n_sSetZ, n_sFrz, n_sFor, n_gN, pq2_e, n_sPar, n_sParFG, n_sParGF, n_sParFF, n_sP3, n_sP4, n_eTupR, n_eLstR, n_eRevT, q_revT, n_sAsg, n_gTn_t, n_gTn_k, n_gsCons, n_gsNil, n_eLC, n_iSeq, n_seq_s, n_seq_l, n_seq_t, n_seq_k,
 rq1_e, rq2_e, n_iRng1m, n_iRng2m, n_eSl, n_oNone, n_oSome, n_eMeth, n_eRev, apQ_e, n_sAppend, n_sAug, n_fnM, n_ret, n_ask, n_dTuple, cif_t, cif_f, isB_bl, isI_int, optP_s, hasT,
 getS, setS, frzS, startE, slK, wipeE, put0, put1, put2, put3, q_add_i, q_add_s, q_add_t, q_add_l, q_sub, q_mul_i, q_mul_s, q_mod, q_neg, q_lt, q_le, q_gt, q_ge, q_eq_i, q_ne_i, q_eq_s, q_ne_s, q_is_bb, q_is_bn, q_is_in, q_is_sn, q_is_tn, q_is_nn, q_isn_bb, q_isn_bn, q_isn_in, q_isn_sn, q_isn_tn, q_isn_nn,
 q_it_l, q_it_t, q_it_k, q_it_s, at0, at1, at2, at3, atm1_1, atm1_2, atm1_a, q_len_s, q_len_l, q_len_t, q_isi, q_int, q_str, ty_int, ty_str, ty_bl, ty_lst, ty_tup, ty_kt, ty_non, isiT, q_sl_s, q_sl_t, q_sl_l,
 n_iZipU, n_iEnU, eqU_l, zqU_ll, zqU_lt, zqU_ls, eqU_t, zqU_tl, zqU_tt, zqU_ts, eqU_s, zqU_sl, zqU_st, zqU_ss, eqU_k,
 List.map_cons, List.map_nil, List.length_cons, List.length_nil, List.cons_append, List.nil_append, List.append_nil, List.replicate_zero, List.replicate_succ, Nat.reduceAdd, Nat.reduceSub, Nat.reduceEqDiff, Nat.reduceLeDiff, Int.reduceAdd, Int.reduceSub, Int.reduceMul, Int.reduceMod, Int.reduceNeg, Int.reduceLT, Int.reduceLE, Int.reduceBEq, decide_true, decide_false, Bool.not_true, Bool.not_false, true_and, and_true, Nat.zero_add]
  exact sp_need_number h1 h2 h3 h4 (sp_whole_in (by omega) (by omega) h)
theorem sp_is_less {a b c d : Int} (h1 : -1000000000 ≤ a) (h2 : a ≤ 1000000000) (h3 : -1000000000 ≤ b) (h4 : b ≤ 1000000000) (k1 : -1000000000 ≤ c) (k2 : c ≤ 1000000000) (k3 : -1000000000 ≤ d) (k4 : d ≤ 1000000000) (h : P (.bl (decide (sg (a - c) (b - d) < 0)))) : m_is_less [nD a b, nD c d] P := by
  simp only [m_is_less, S_is_less, n_eVar, n_eVarB, varQ_fz, varB_fz, varB_ow, n_eC, n_eCall, n_aCons, n_aNil, n_eBin, n_eUn, n_eTup, n_eLst, n_eIf, n_eAnd, n_eOr, n_eNot, n_eChain, n_tVal, n_tNot, n_tAnd, n_tOr, n_tTrue,
 n_sSeq, n_sIf, n_sNil, n_sRet, n_sExpr, n_sBreak, n_sCont, n_sSet, n_sSetO, n_sSetZ, n_sFrz, n_sFor, n_gN, pq2_e, n_sPar, n_sParFG, n_sParGF, n_sParFF, n_sP3, n_sP4, n_eTupR, n_eLstR, n_eRevT, q_revT, n_sAsg, n_gTn_t, n_gTn_k, n_gsCons, n_gsNil, n_eLC, n_iSeq, n_seq_s, n_seq_l, n_seq_t, n_seq_k,
 rq1_e, rq2_e, n_iRng1m, n_iRng2m, n_eSl, n_oNone, n_oSome, n_eMeth, n_eRev, apQ_e, n_sAppend, n_sAug, n_fnM, n_ret, n_ask, n_dTuple, cif_t, cif_f, isB_bl, isI_int, optP_s, hasT,
 getS, setS, frzS, startE, slK, wipeE, put0, put1, put2, put3, q_add_i, q_add_s, q_add_t, q_add_l, q_sub, q_mul_i, q_mul_s, q_mod, q_neg, q_lt, q_le, q_gt, q_ge, q_eq_i, q_ne_i, q_eq_s, q_ne_s, q_is_bb, q_is_bn, q_is_in, q_is_sn, q_is_tn, q_is_nn, q_isn_bb, q_isn_bn, q_isn_in, q_isn_sn, q_isn_tn, q_isn_nn,
 q_it_l, q_it_t, q_it_k, q_it_s, at0, at1, at2, at3, atm1_1, atm1_2, atm1_a, q_len_s, q_len_l, q_len_t, q_isi, q_int, q_str, ty_int, ty_str, ty_bl, ty_lst, ty_tup, ty_kt, ty_non, isiT, q_sl_s, q_sl_t, q_sl_l,
 n_iZipU, n_iEnU, eqU_l, zqU_ll, zqU_lt, zqU_ls, eqU_t, zqU_tl, zqU_tt, zqU_ts, eqU_s, zqU_sl, zqU_st, zqU_ss, eqU_k,
 List.map_cons, List.map_nil, List.length_cons, List.length_nil, List.cons_append, List.nil_append, List.append_nil, List.replicate_zero, List.replicate_succ, Nat.reduceAdd, Nat.reduceSub, Nat.reduceEqDiff, Nat.reduceLeDiff, Int.reduceAdd, Int.reduceSub, Int.reduceMul, Int.reduceMod, Int.reduceNeg, Int.reduceLT, Int.reduceLE, Int.reduceBEq, decide_true, decide_false, Bool.not_true, Bool.not_false, true_and, and_true, Nat.zero_add]
  refine sp_need_number h1 h2 h3 h4 (sp_need_number k1 k2 k3 k4 (sp_minus (.inl rfl) (.inl rfl) (sp_sign_in (by unfold small; omega) (by unfold small; omega) ?_)))
  try simp only [n_eVar, n_eVarB, varQ_fz, varB_fz, varB_ow, n_eC, n_eCall, n_aCons, n_aNil, n_eBin, n_eUn, n_eTup, n_eLst, n_eIf, n_eAnd, n_eOr, n_eNot, n_eChain, n_tVal, n_tNot, n_tAnd, n_tOr, n_tTrue,
 n_sSeq, n_sIf, n_sNil, n_sRet, n_sExpr, n_sBreak, n_sCont, n_sSet, n_sSetO, n_sSetZ, n_sFrz, n_sFor, n_gN, pq2_e, n_sPar, n_sParFG, n_sParGF, n_sParFF, n_sP3, n_sP4, n_eTupR, n_eLstR, n_eRevT, q_revT, n_sAsg, n_gTn_t, n_gTn_k, n_gsCons, n_gsNil, n_eLC, n_iSeq, n_seq_s, n_seq_l, n_seq_t, n_seq_k,
 rq1_e, rq2_e, n_iRng1m, n_iRng2m, n_eSl, n_oNone, n_oSome, n_eMeth, n_eRev, apQ_e, n_sAppend, n_sAug, n_fnM, n_ret, n_ask, n_dTuple, cif_t, cif_f, isB_bl, isI_int, optP_s, hasT,
 getS, setS, frzS, startE, slK, wipeE, put0, put1, put2, put3, q_add_i, q_add_s, q_add_t, q_add_l, q_sub, q_mul_i, q_mul_s, q_mod, q_neg, q_lt, q_le, q_gt, q_ge, q_eq_i, q_ne_i, q_eq_s, q_ne_s, q_is_bb, q_is_bn, q_is_in, q_is_sn, q_is_tn, q_is_nn, q_isn_bb, q_isn_bn, q_isn_in, q_isn_sn, q_isn_tn, q_isn_nn,
 q_it_l, q_it_t, q_it_k, q_it_s, at0, at1, at2, at3, atm1_1, atm1_2, atm1_a, q_len_s, q_len_l, q_len_t, q_isi, q_int, q_str, ty_int, ty_str, ty_bl, ty_lst, ty_tup, ty_kt, ty_non, isiT, q_sl_s, q_sl_t, q_sl_l,
 n_iZipU, n_iEnU, eqU_l, zqU_ll, zqU_lt, zqU_ls, eqU_t, zqU_tl, zqU_tt, zqU_ts, eqU_s, zqU_sl, zqU_st, zqU_ss, eqU_k,
 List.map_cons, List.map_nil, List.length_cons, List.length_nil, List.cons_append, List.nil_append, List.append_nil, List.replicate_zero, List.replicate_succ, Nat.reduceAdd, Nat.reduceSub, Nat.reduceEqDiff, Nat.reduceLeDiff, Int.reduceAdd, Int.reduceSub, Int.reduceMul, Int.reduceMod, Int.reduceNeg, Int.reduceLT, Int.reduceLE, Int.reduceBEq, decide_true, decide_false, Bool.not_true, Bool.not_false, true_and, and_true, Nat.zero_add]
  exact h
theorem sp_product {a b c d : Int} (h1 : -1000000000 ≤ a) (h2 : a ≤ 1000000000) (h3 : -1000000000 ≤ b) (h4 : b ≤ 1000000000) (k1 : -1000000000 ≤ c) (k2 : c ≤ 1000000000) (k3 : -1000000000 ≤ d) (k4 : d ≤ 1000000000) (h : P (nD (a * c + 2 * (b * d)) (a * d + b * c))) : m_product [nD a b, nD c d] P := by
  simp only [m_product, S_product, n_eVar, n_eVarB, varQ_fz, varB_fz, varB_ow, n_eC, n_eCall, n_aCons, n_aNil, n_eBin, n_eUn, n_eTup, n_eLst, n_eIf, n_eAnd, n_eOr, n_eNot, n_eChain, n_tVal, n_tNot, n_tAnd, n_tOr, n_tTrue,
 n_sSeq, n_sIf, n_sNil, n_sRet, n_sExpr, n_sBreak, n_sCont, n_sSet, n_sSetO, n_sSetZ, n_sFrz, n_sFor, n_gN, pq2_e, n_sPar, n_sParFG, n_sParGF, n_sParFF, n_sP3, n_sP4, n_eTupR, n_eLstR, n_eRevT, q_revT, n_sAsg, n_gTn_t, n_gTn_k, n_gsCons, n_gsNil, n_eLC, n_iSeq, n_seq_s, n_seq_l, n_seq_t, n_seq_k,
 rq1_e, rq2_e, n_iRng1m, n_iRng2m, n_eSl, n_oNone, n_oSome, n_eMeth, n_eRev, apQ_e, n_sAppend, n_sAug, n_fnM, n_ret, n_ask, n_dTuple, cif_t, cif_f, isB_bl, isI_int, optP_s, hasT,
 getS, setS, frzS, startE, slK, wipeE, put0, put1, put2, put3, q_add_i, q_add_s, q_add_t, q_add_l, q_sub, q_mul_i, q_mul_s, q_mod, q_neg, q_lt, q_le, q_gt, q_ge, q_eq_i, q_ne_i, q_eq_s, q_ne_s, q_is_bb, q_is_bn, q_is_in, q_is_sn, q_is_tn, q_is_nn, q_isn_bb, q_isn_bn, q_isn_in, q_isn_sn, q_isn_tn, q_isn_nn,
 q_it_l, q_it_t, q_it_k, q_it_s, at0, at1, at2, at3, atm1_1, atm1_2, atm1_a, q_len_s, q_len_l, q_len_t, q_isi, q_int, q_str, ty_int, ty_str, ty_bl, ty_lst, ty_tup, ty_kt, ty_non, isiT, q_sl_s, q_sl_t, q_sl_l,
 n_iZipU, n_iEnU, eqU_l, zqU_ll, zqU_lt, zqU_ls, eqU_t, zqU_tl, zqU_tt, zqU_ts, eqU_s, zqU_sl, zqU_st, zqU_ss, eqU_k,
 List.map_cons, List.map_nil, List.length_cons, List.length_nil, List.cons_append, List.nil_append, List.append_nil, List.replicate_zero, List.replicate_succ, Nat.reduceAdd, Nat.reduceSub, Nat.reduceEqDiff, Nat.reduceLeDiff, Int.reduceAdd, Int.reduceSub, Int.reduceMul, Int.reduceMod, Int.reduceNeg, Int.reduceLT, Int.reduceLE, Int.reduceBEq, decide_true, decide_false, Bool.not_true, Bool.not_false, true_and, and_true, Nat.zero_add]
  refine sp_need_number h1 h2 h3 h4 (sp_need_number k1 k2 k3 k4 ?_)
  have sa : small a := by unfold small; omega
  have sb : small b := by unfold small; omega
  have sd : small d := by unfold small; omega
  try simp only [nD, n_eVar, n_eVarB, varQ_fz, varB_fz, varB_ow, n_eC, n_eCall, n_aCons, n_aNil, n_eBin, n_eUn, n_eTup, n_eLst, n_eIf, n_eAnd, n_eOr, n_eNot, n_eChain, n_tVal, n_tNot, n_tAnd, n_tOr, n_tTrue,
 n_sSeq, n_sIf, n_sNil, n_sRet, n_sExpr, n_sBreak, n_sCont, n_sSet, n_sSetO, n_sSetZ, n_sFrz, n_sFor, n_gN, pq2_e, n_sPar, n_sParFG, n_sParGF, n_sParFF, n_sP3, n_sP4, n_eTupR, n_eLstR, n_eRevT, q_revT, n_sAsg, n_gTn_t, n_gTn_k, n_gsCons, n_gsNil, n_eLC, n_iSeq, n_seq_s, n_seq_l, n_seq_t, n_seq_k,
 rq1_e, rq2_e, n_iRng1m, n_iRng2m, n_eSl, n_oNone, n_oSome, n_eMeth, n_eRev, apQ_e, n_sAppend, n_sAug, n_fnM, n_ret, n_ask, n_dTuple, cif_t, cif_f, isB_bl, isI_int, optP_s, hasT,
 getS, setS, frzS, startE, slK, wipeE, put0, put1, put2, put3, q_add_i, q_add_s, q_add_t, q_add_l, q_sub, q_mul_i, q_mul_s, q_mod, q_neg, q_lt, q_le, q_gt, q_ge, q_eq_i, q_ne_i, q_eq_s, q_ne_s, q_is_bb, q_is_bn, q_is_in, q_is_sn, q_is_tn, q_is_nn, q_isn_bb, q_isn_bn, q_isn_in, q_isn_sn, q_isn_tn, q_isn_nn,
 q_it_l, q_it_t, q_it_k, q_it_s, at0, at1, at2, at3, atm1_1, atm1_2, atm1_a, q_len_s, q_len_l, q_len_t, q_isi, q_int, q_str, ty_int, ty_str, ty_bl, ty_lst, ty_tup, ty_kt, ty_non, isiT, q_sl_s, q_sl_t, q_sl_l,
 n_iZipU, n_iEnU, eqU_l, zqU_ll, zqU_lt, zqU_ls, eqU_t, zqU_tl, zqU_tt, zqU_ts, eqU_s, zqU_sl, zqU_st, zqU_ss, eqU_k,
 List.map_cons, List.map_nil, List.length_cons, List.length_nil, List.cons_append, List.nil_append, List.append_nil, List.replicate_zero, List.replicate_succ, Nat.reduceAdd, Nat.reduceSub, Nat.reduceEqDiff, Nat.reduceLeDiff, Int.reduceAdd, Int.reduceSub, Int.reduceMul, Int.reduceMod, Int.reduceNeg, Int.reduceLT, Int.reduceLE, Int.reduceBEq, decide_true, decide_false, Bool.not_true, Bool.not_false, true_and, and_true, Nat.zero_add]
  rw [← Int.mul_assoc] at h
  exact ⟨.inl sa, .inr sb, .inr sd, .inl sa, .inl sb, (show 2 ≤ lim by decide), h⟩
theorem sp_law_number (h : ∀ a b : Int, -1000000000 ≤ a → a ≤ 1000000000 → -1000000000 ≤ b → b ≤ 1000000000 → P (nD a b)) : m_law_number [.cup] P := by
  simp (decide := true) only [m_law_number, S_law_number, q_pow, n_eVar, n_eVarB, varQ_fz, varB_fz, varB_ow, n_eC, n_eCall, n_aCons, n_aNil, n_eBin, n_eUn, n_eTup, n_eLst, n_eIf, n_eAnd, n_eOr, n_eNot, n_eChain, n_tVal, n_tNot, n_tAnd, n_tOr, n_tTrue,
 n_sSeq, n_sIf, n_sNil, n_sRet, n_sExpr, n_sBreak, n_sCont, n_sSet, n_sSetO, n_sSetZ, n_sFrz, n_sFor, n_gN, pq2_e, n_sPar, n_sParFG, n_sParGF, n_sParFF, n_sP3, n_sP4, n_eTupR, n_eLstR, n_eRevT, q_revT, n_sAsg, n_gTn_t, n_gTn_k, n_gsCons, n_gsNil, n_eLC, n_iSeq, n_seq_s, n_seq_l, n_seq_t, n_seq_k,
 rq1_e, rq2_e, n_iRng1m, n_iRng2m, n_eSl, n_oNone, n_oSome, n_eMeth, n_eRev, apQ_e, n_sAppend, n_sAug, n_fnM, n_ret, n_ask, n_dTuple, cif_t, cif_f, isB_bl, isI_int, optP_s, hasT,
 getS, setS, frzS, startE, slK, wipeE, put0, put1, put2, put3, q_add_i, q_add_s, q_add_t, q_add_l, q_sub, q_mul_i, q_mul_s, q_mod, q_neg, q_lt, q_le, q_gt, q_ge, q_eq_i, q_ne_i, q_eq_s, q_ne_s, q_is_bb, q_is_bn, q_is_in, q_is_sn, q_is_tn, q_is_nn, q_isn_bb, q_isn_bn, q_isn_in, q_isn_sn, q_isn_tn, q_isn_nn,
 q_it_l, q_it_t, q_it_k, q_it_s, at0, at1, at2, at3, atm1_1, atm1_2, atm1_a, q_len_s, q_len_l, q_len_t, q_isi, q_int, q_str, ty_int, ty_str, ty_bl, ty_lst, ty_tup, ty_kt, ty_non, isiT, q_sl_s, q_sl_t, q_sl_l,
 n_iZipU, n_iEnU, eqU_l, zqU_ll, zqU_lt, zqU_ls, eqU_t, zqU_tl, zqU_tt, zqU_ts, eqU_s, zqU_sl, zqU_st, zqU_ss, eqU_k,
 List.map_cons, List.map_nil, List.length_cons, List.length_nil, List.cons_append, List.nil_append, List.append_nil, List.replicate_zero, List.replicate_succ, Nat.reduceAdd, Nat.reduceSub, Nat.reduceEqDiff, Nat.reduceLeDiff, Int.reduceAdd, Int.reduceSub, Int.reduceMul, Int.reduceMod, Int.reduceNeg, Int.reduceLT, Int.reduceLE, Int.reduceBEq, decide_true, decide_false, Bool.not_true, Bool.not_false, true_and, and_true, Nat.zero_add]
  refine sp_law_some (by decide) (by decide) fun x hx => ?_
  have hx' : ∃ k : Int, x = .int k ∧ 0 ≤ k ∧ k ≤ 1000000000 := by
    simp only [List.mem_cons, List.mem_nil_iff, or_false] at hx
    rcases hx with rfl | rfl | rfl | rfl
    · exact ⟨_, rfl, by decide, by decide⟩
    · exact ⟨_, rfl, by decide, by decide⟩
    · exact ⟨_, rfl, by decide, by decide⟩
    · exact ⟨_, rfl, by decide, by decide⟩
  obtain ⟨k, rfl, k0, k1⟩ := hx'
  clear hx
  have sk : small k := by unfold small; omega
  have s2 : small 2 := by unfold small; omega
  try simp only [n_eVar, n_eVarB, varQ_fz, varB_fz, varB_ow, n_eC, n_eCall, n_aCons, n_aNil, n_eBin, n_eUn, n_eTup, n_eLst, n_eIf, n_eAnd, n_eOr, n_eNot, n_eChain, n_tVal, n_tNot, n_tAnd, n_tOr, n_tTrue,
 n_sSeq, n_sIf, n_sNil, n_sRet, n_sExpr, n_sBreak, n_sCont, n_sSet, n_sSetO, n_sSetZ, n_sFrz, n_sFor, n_gN, pq2_e, n_sPar, n_sParFG, n_sParGF, n_sParFF, n_sP3, n_sP4, n_eTupR, n_eLstR, n_eRevT, q_revT, n_sAsg, n_gTn_t, n_gTn_k, n_gsCons, n_gsNil, n_eLC, n_iSeq, n_seq_s, n_seq_l, n_seq_t, n_seq_k,
 rq1_e, rq2_e, n_iRng1m, n_iRng2m, n_eSl, n_oNone, n_oSome, n_eMeth, n_eRev, apQ_e, n_sAppend, n_sAug, n_fnM, n_ret, n_ask, n_dTuple, cif_t, cif_f, isB_bl, isI_int, optP_s, hasT,
 getS, setS, frzS, startE, slK, wipeE, put0, put1, put2, put3, q_add_i, q_add_s, q_add_t, q_add_l, q_sub, q_mul_i, q_mul_s, q_mod, q_neg, q_lt, q_le, q_gt, q_ge, q_eq_i, q_ne_i, q_eq_s, q_ne_s, q_is_bb, q_is_bn, q_is_in, q_is_sn, q_is_tn, q_is_nn, q_isn_bb, q_isn_bn, q_isn_in, q_isn_sn, q_isn_tn, q_isn_nn,
 q_it_l, q_it_t, q_it_k, q_it_s, at0, at1, at2, at3, atm1_1, atm1_2, atm1_a, q_len_s, q_len_l, q_len_t, q_isi, q_int, q_str, ty_int, ty_str, ty_bl, ty_lst, ty_tup, ty_kt, ty_non, isiT, q_sl_s, q_sl_t, q_sl_l,
 n_iZipU, n_iEnU, eqU_l, zqU_ll, zqU_lt, zqU_ls, eqU_t, zqU_tl, zqU_tt, zqU_ts, eqU_s, zqU_sl, zqU_st, zqU_ss, eqU_k,
 List.map_cons, List.map_nil, List.length_cons, List.length_nil, List.cons_append, List.nil_append, List.append_nil, List.replicate_zero, List.replicate_succ, Nat.reduceAdd, Nat.reduceSub, Nat.reduceEqDiff, Nat.reduceLeDiff, Int.reduceAdd, Int.reduceSub, Int.reduceMul, Int.reduceMod, Int.reduceNeg, Int.reduceLT, Int.reduceLE, Int.reduceBEq, decide_true, decide_false, Bool.not_true, Bool.not_false, true_and, and_true, Nat.zero_add]
  refine ⟨.inl s2, q_rollW (by omega) (by omega) fun r r0 r1 => ?_⟩
  try simp only [n_eVar, n_eVarB, varQ_fz, varB_fz, varB_ow, n_eC, n_eCall, n_aCons, n_aNil, n_eBin, n_eUn, n_eTup, n_eLst, n_eIf, n_eAnd, n_eOr, n_eNot, n_eChain, n_tVal, n_tNot, n_tAnd, n_tOr, n_tTrue,
 n_sSeq, n_sIf, n_sNil, n_sRet, n_sExpr, n_sBreak, n_sCont, n_sSet, n_sSetO, n_sSetZ, n_sFrz, n_sFor, n_gN, pq2_e, n_sPar, n_sParFG, n_sParGF, n_sParFF, n_sP3, n_sP4, n_eTupR, n_eLstR, n_eRevT, q_revT, n_sAsg, n_gTn_t, n_gTn_k, n_gsCons, n_gsNil, n_eLC, n_iSeq, n_seq_s, n_seq_l, n_seq_t, n_seq_k,
 rq1_e, rq2_e, n_iRng1m, n_iRng2m, n_eSl, n_oNone, n_oSome, n_eMeth, n_eRev, apQ_e, n_sAppend, n_sAug, n_fnM, n_ret, n_ask, n_dTuple, cif_t, cif_f, isB_bl, isI_int, optP_s, hasT,
 getS, setS, frzS, startE, slK, wipeE, put0, put1, put2, put3, q_add_i, q_add_s, q_add_t, q_add_l, q_sub, q_mul_i, q_mul_s, q_mod, q_neg, q_lt, q_le, q_gt, q_ge, q_eq_i, q_ne_i, q_eq_s, q_ne_s, q_is_bb, q_is_bn, q_is_in, q_is_sn, q_is_tn, q_is_nn, q_isn_bb, q_isn_bn, q_isn_in, q_isn_sn, q_isn_tn, q_isn_nn,
 q_it_l, q_it_t, q_it_k, q_it_s, at0, at1, at2, at3, atm1_1, atm1_2, atm1_a, q_len_s, q_len_l, q_len_t, q_isi, q_int, q_str, ty_int, ty_str, ty_bl, ty_lst, ty_tup, ty_kt, ty_non, isiT, q_sl_s, q_sl_t, q_sl_l,
 n_iZipU, n_iEnU, eqU_l, zqU_ll, zqU_lt, zqU_ls, eqU_t, zqU_tl, zqU_tt, zqU_ts, eqU_s, zqU_sl, zqU_st, zqU_ss, eqU_k,
 List.map_cons, List.map_nil, List.length_cons, List.length_nil, List.cons_append, List.nil_append, List.append_nil, List.replicate_zero, List.replicate_succ, Nat.reduceAdd, Nat.reduceSub, Nat.reduceEqDiff, Nat.reduceLeDiff, Int.reduceAdd, Int.reduceSub, Int.reduceMul, Int.reduceMod, Int.reduceNeg, Int.reduceLT, Int.reduceLE, Int.reduceBEq, decide_true, decide_false, Bool.not_true, Bool.not_false, true_and, and_true, Nat.zero_add]
  refine ⟨.inl s2, q_rollW (by omega) (by omega) fun t t0 t1 => ?_⟩
  try simp only [n_eVar, n_eVarB, varQ_fz, varB_fz, varB_ow, n_eC, n_eCall, n_aCons, n_aNil, n_eBin, n_eUn, n_eTup, n_eLst, n_eIf, n_eAnd, n_eOr, n_eNot, n_eChain, n_tVal, n_tNot, n_tAnd, n_tOr, n_tTrue,
 n_sSeq, n_sIf, n_sNil, n_sRet, n_sExpr, n_sBreak, n_sCont, n_sSet, n_sSetO, n_sSetZ, n_sFrz, n_sFor, n_gN, pq2_e, n_sPar, n_sParFG, n_sParGF, n_sParFF, n_sP3, n_sP4, n_eTupR, n_eLstR, n_eRevT, q_revT, n_sAsg, n_gTn_t, n_gTn_k, n_gsCons, n_gsNil, n_eLC, n_iSeq, n_seq_s, n_seq_l, n_seq_t, n_seq_k,
 rq1_e, rq2_e, n_iRng1m, n_iRng2m, n_eSl, n_oNone, n_oSome, n_eMeth, n_eRev, apQ_e, n_sAppend, n_sAug, n_fnM, n_ret, n_ask, n_dTuple, cif_t, cif_f, isB_bl, isI_int, optP_s, hasT,
 getS, setS, frzS, startE, slK, wipeE, put0, put1, put2, put3, q_add_i, q_add_s, q_add_t, q_add_l, q_sub, q_mul_i, q_mul_s, q_mod, q_neg, q_lt, q_le, q_gt, q_ge, q_eq_i, q_ne_i, q_eq_s, q_ne_s, q_is_bb, q_is_bn, q_is_in, q_is_sn, q_is_tn, q_is_nn, q_isn_bb, q_isn_bn, q_isn_in, q_isn_sn, q_isn_tn, q_isn_nn,
 q_it_l, q_it_t, q_it_k, q_it_s, at0, at1, at2, at3, atm1_1, atm1_2, atm1_a, q_len_s, q_len_l, q_len_t, q_isi, q_int, q_str, ty_int, ty_str, ty_bl, ty_lst, ty_tup, ty_kt, ty_non, isiT, q_sl_s, q_sl_t, q_sl_l,
 n_iZipU, n_iEnU, eqU_l, zqU_ll, zqU_lt, zqU_ls, eqU_t, zqU_tl, zqU_tt, zqU_ts, eqU_s, zqU_sl, zqU_st, zqU_ss, eqU_k,
 List.map_cons, List.map_nil, List.length_cons, List.length_nil, List.cons_append, List.nil_append, List.append_nil, List.replicate_zero, List.replicate_succ, Nat.reduceAdd, Nat.reduceSub, Nat.reduceEqDiff, Nat.reduceLeDiff, Int.reduceAdd, Int.reduceSub, Int.reduceMul, Int.reduceMod, Int.reduceNeg, Int.reduceLT, Int.reduceLE, Int.reduceBEq, decide_true, decide_false, Bool.not_true, Bool.not_false, true_and, and_true, Nat.zero_add]
  have p1 : -1000000000 ≤ t - k := by omega
  have p2 : t - k ≤ 1000000000 := by omega
  have w1 : -1000000000 ≤ r - k := by omega
  have w2 : r - k ≤ 1000000000 := by omega
  generalize t - k = b at p1 p2
  generalize r - k = a at w1 w2
  have sb := sq_bnd p1 p2
  have sm : small b := by unfold small; omega
  refine ⟨.inl s2, .inr sm, sp_law_root (rt_nn b) (by rw [Int.mul_assoc]; omega) fun q hq => ?_⟩
  refine sp_law_some (by decide) (by decide) fun x hx => ?_
  have hx' : ∃ j : Int, x = .int j ∧ small j := by
    simp only [List.mem_cons, List.mem_nil_iff, or_false] at hx
    rcases hx with rfl | rfl
    · exact ⟨_, rfl, by unfold small; omega⟩
    · exact ⟨_, rfl, by unfold small; omega⟩
  obtain ⟨j, rfl, sj⟩ := hx'
  clear hx
  try simp only [n_eVar, n_eVarB, varQ_fz, varB_fz, varB_ow, n_eC, n_eCall, n_aCons, n_aNil, n_eBin, n_eUn, n_eTup, n_eLst, n_eIf, n_eAnd, n_eOr, n_eNot, n_eChain, n_tVal, n_tNot, n_tAnd, n_tOr, n_tTrue,
 n_sSeq, n_sIf, n_sNil, n_sRet, n_sExpr, n_sBreak, n_sCont, n_sSet, n_sSetO, n_sSetZ, n_sFrz, n_sFor, n_gN, pq2_e, n_sPar, n_sParFG, n_sParGF, n_sParFF, n_sP3, n_sP4, n_eTupR, n_eLstR, n_eRevT, q_revT, n_sAsg, n_gTn_t, n_gTn_k, n_gsCons, n_gsNil, n_eLC, n_iSeq, n_seq_s, n_seq_l, n_seq_t, n_seq_k,
 rq1_e, rq2_e, n_iRng1m, n_iRng2m, n_eSl, n_oNone, n_oSome, n_eMeth, n_eRev, apQ_e, n_sAppend, n_sAug, n_fnM, n_ret, n_ask, n_dTuple, cif_t, cif_f, isB_bl, isI_int, optP_s, hasT,
 getS, setS, frzS, startE, slK, wipeE, put0, put1, put2, put3, q_add_i, q_add_s, q_add_t, q_add_l, q_sub, q_mul_i, q_mul_s, q_mod, q_neg, q_lt, q_le, q_gt, q_ge, q_eq_i, q_ne_i, q_eq_s, q_ne_s, q_is_bb, q_is_bn, q_is_in, q_is_sn, q_is_tn, q_is_nn, q_isn_bb, q_isn_bn, q_isn_in, q_isn_sn, q_isn_tn, q_isn_nn,
 q_it_l, q_it_t, q_it_k, q_it_s, at0, at1, at2, at3, atm1_1, atm1_2, atm1_a, q_len_s, q_len_l, q_len_t, q_isi, q_int, q_str, ty_int, ty_str, ty_bl, ty_lst, ty_tup, ty_kt, ty_non, isiT, q_sl_s, q_sl_t, q_sl_l,
 n_iZipU, n_iEnU, eqU_l, zqU_ll, zqU_lt, zqU_ls, eqU_t, zqU_tl, zqU_tt, zqU_ts, eqU_s, zqU_sl, zqU_st, zqU_ss, eqU_k,
 List.map_cons, List.map_nil, List.length_cons, List.length_nil, List.cons_append, List.nil_append, List.append_nil, List.replicate_zero, List.replicate_succ, Nat.reduceAdd, Nat.reduceSub, Nat.reduceEqDiff, Nat.reduceLeDiff, Int.reduceAdd, Int.reduceSub, Int.reduceMul, Int.reduceMod, Int.reduceNeg, Int.reduceLT, Int.reduceLE, Int.reduceBEq, decide_true, decide_false, Bool.not_true, Bool.not_false, true_and, and_true, Nat.zero_add]
  refine ⟨.inr sj, q_rollW (by omega) (by omega) fun u u0 u1 => ?_⟩
  try simp only [n_eVar, n_eVarB, varQ_fz, varB_fz, varB_ow, n_eC, n_eCall, n_aCons, n_aNil, n_eBin, n_eUn, n_eTup, n_eLst, n_eIf, n_eAnd, n_eOr, n_eNot, n_eChain, n_tVal, n_tNot, n_tAnd, n_tOr, n_tTrue,
 n_sSeq, n_sIf, n_sNil, n_sRet, n_sExpr, n_sBreak, n_sCont, n_sSet, n_sSetO, n_sSetZ, n_sFrz, n_sFor, n_gN, pq2_e, n_sPar, n_sParFG, n_sParGF, n_sParFF, n_sP3, n_sP4, n_eTupR, n_eLstR, n_eRevT, q_revT, n_sAsg, n_gTn_t, n_gTn_k, n_gsCons, n_gsNil, n_eLC, n_iSeq, n_seq_s, n_seq_l, n_seq_t, n_seq_k,
 rq1_e, rq2_e, n_iRng1m, n_iRng2m, n_eSl, n_oNone, n_oSome, n_eMeth, n_eRev, apQ_e, n_sAppend, n_sAug, n_fnM, n_ret, n_ask, n_dTuple, cif_t, cif_f, isB_bl, isI_int, optP_s, hasT,
 getS, setS, frzS, startE, slK, wipeE, put0, put1, put2, put3, q_add_i, q_add_s, q_add_t, q_add_l, q_sub, q_mul_i, q_mul_s, q_mod, q_neg, q_lt, q_le, q_gt, q_ge, q_eq_i, q_ne_i, q_eq_s, q_ne_s, q_is_bb, q_is_bn, q_is_in, q_is_sn, q_is_tn, q_is_nn, q_isn_bb, q_isn_bn, q_isn_in, q_isn_sn, q_isn_tn, q_isn_nn,
 q_it_l, q_it_t, q_it_k, q_it_s, at0, at1, at2, at3, atm1_1, atm1_2, atm1_a, q_len_s, q_len_l, q_len_t, q_isi, q_int, q_str, ty_int, ty_str, ty_bl, ty_lst, ty_tup, ty_kt, ty_non, isiT, q_sl_s, q_sl_t, q_sl_l,
 n_iZipU, n_iEnU, eqU_l, zqU_ll, zqU_lt, zqU_ls, eqU_t, zqU_tl, zqU_tt, zqU_ts, eqU_s, zqU_sl, zqU_st, zqU_ss, eqU_k,
 List.map_cons, List.map_nil, List.length_cons, List.length_nil, List.cons_append, List.nil_append, List.append_nil, List.replicate_zero, List.replicate_succ, Nat.reduceAdd, Nat.reduceSub, Nat.reduceEqDiff, Nat.reduceLeDiff, Int.reduceAdd, Int.reduceSub, Int.reduceMul, Int.reduceMod, Int.reduceNeg, Int.reduceLT, Int.reduceLE, Int.reduceBEq, decide_true, decide_false, Bool.not_true, Bool.not_false, true_and, and_true, Nat.zero_add]
  generalize q * j + u - 1 = e
  rw [q_max2]
  try simp only [n_eVar, n_eVarB, varQ_fz, varB_fz, varB_ow, n_eC, n_eCall, n_aCons, n_aNil, n_eBin, n_eUn, n_eTup, n_eLst, n_eIf, n_eAnd, n_eOr, n_eNot, n_eChain, n_tVal, n_tNot, n_tAnd, n_tOr, n_tTrue,
 n_sSeq, n_sIf, n_sNil, n_sRet, n_sExpr, n_sBreak, n_sCont, n_sSet, n_sSetO, n_sSetZ, n_sFrz, n_sFor, n_gN, pq2_e, n_sPar, n_sParFG, n_sParGF, n_sParFF, n_sP3, n_sP4, n_eTupR, n_eLstR, n_eRevT, q_revT, n_sAsg, n_gTn_t, n_gTn_k, n_gsCons, n_gsNil, n_eLC, n_iSeq, n_seq_s, n_seq_l, n_seq_t, n_seq_k,
 rq1_e, rq2_e, n_iRng1m, n_iRng2m, n_eSl, n_oNone, n_oSome, n_eMeth, n_eRev, apQ_e, n_sAppend, n_sAug, n_fnM, n_ret, n_ask, n_dTuple, cif_t, cif_f, isB_bl, isI_int, optP_s, hasT,
 getS, setS, frzS, startE, slK, wipeE, put0, put1, put2, put3, q_add_i, q_add_s, q_add_t, q_add_l, q_sub, q_mul_i, q_mul_s, q_mod, q_neg, q_lt, q_le, q_gt, q_ge, q_eq_i, q_ne_i, q_eq_s, q_ne_s, q_is_bb, q_is_bn, q_is_in, q_is_sn, q_is_tn, q_is_nn, q_isn_bb, q_isn_bn, q_isn_in, q_isn_sn, q_isn_tn, q_isn_nn,
 q_it_l, q_it_t, q_it_k, q_it_s, at0, at1, at2, at3, atm1_1, atm1_2, atm1_a, q_len_s, q_len_l, q_len_t, q_isi, q_int, q_str, ty_int, ty_str, ty_bl, ty_lst, ty_tup, ty_kt, ty_non, isiT, q_sl_s, q_sl_t, q_sl_l,
 n_iZipU, n_iEnU, eqU_l, zqU_ll, zqU_lt, zqU_ls, eqU_t, zqU_tl, zqU_tt, zqU_ts, eqU_s, zqU_sl, zqU_st, zqU_ss, eqU_k,
 List.map_cons, List.map_nil, List.length_cons, List.length_nil, List.cons_append, List.nil_append, List.append_nil, List.replicate_zero, List.replicate_succ, Nat.reduceAdd, Nat.reduceSub, Nat.reduceEqDiff, Nat.reduceLeDiff, Int.reduceAdd, Int.reduceSub, Int.reduceMul, Int.reduceMod, Int.reduceNeg, Int.reduceLT, Int.reduceLE, Int.reduceBEq, decide_true, decide_false, Bool.not_true, Bool.not_false, true_and, and_true, Nat.zero_add]
  rw [show ((10 : Int) ^ Int.toNat 9) = 1000000000 from by decide]
  by_cases c : max e (-e) ≤ 1000000000
  · rw [decide_eq_true c]
    simp only [n_eVar, n_eVarB, varQ_fz, varB_fz, varB_ow, n_eC, n_eCall, n_aCons, n_aNil, n_eBin, n_eUn, n_eTup, n_eLst, n_eIf, n_eAnd, n_eOr, n_eNot, n_eChain, n_tVal, n_tNot, n_tAnd, n_tOr, n_tTrue,
 n_sSeq, n_sIf, n_sNil, n_sRet, n_sExpr, n_sBreak, n_sCont, n_sSet, n_sSetO, n_sSetZ, n_sFrz, n_sFor, n_gN, pq2_e, n_sPar, n_sParFG, n_sParGF, n_sParFF, n_sP3, n_sP4, n_eTupR, n_eLstR, n_eRevT, q_revT, n_sAsg, n_gTn_t, n_gTn_k, n_gsCons, n_gsNil, n_eLC, n_iSeq, n_seq_s, n_seq_l, n_seq_t, n_seq_k,
 rq1_e, rq2_e, n_iRng1m, n_iRng2m, n_eSl, n_oNone, n_oSome, n_eMeth, n_eRev, apQ_e, n_sAppend, n_sAug, n_fnM, n_ret, n_ask, n_dTuple, cif_t, cif_f, isB_bl, isI_int, optP_s, hasT,
 getS, setS, frzS, startE, slK, wipeE, put0, put1, put2, put3, q_add_i, q_add_s, q_add_t, q_add_l, q_sub, q_mul_i, q_mul_s, q_mod, q_neg, q_lt, q_le, q_gt, q_ge, q_eq_i, q_ne_i, q_eq_s, q_ne_s, q_is_bb, q_is_bn, q_is_in, q_is_sn, q_is_tn, q_is_nn, q_isn_bb, q_isn_bn, q_isn_in, q_isn_sn, q_isn_tn, q_isn_nn,
 q_it_l, q_it_t, q_it_k, q_it_s, at0, at1, at2, at3, atm1_1, atm1_2, atm1_a, q_len_s, q_len_l, q_len_t, q_isi, q_int, q_str, ty_int, ty_str, ty_bl, ty_lst, ty_tup, ty_kt, ty_non, isiT, q_sl_s, q_sl_t, q_sl_l,
 n_iZipU, n_iEnU, eqU_l, zqU_ll, zqU_lt, zqU_ls, eqU_t, zqU_tl, zqU_tt, zqU_ts, eqU_s, zqU_sl, zqU_st, zqU_ss, eqU_k,
 List.map_cons, List.map_nil, List.length_cons, List.length_nil, List.cons_append, List.nil_append, List.append_nil, List.replicate_zero, List.replicate_succ, Nat.reduceAdd, Nat.reduceSub, Nat.reduceEqDiff, Nat.reduceLeDiff, Int.reduceAdd, Int.reduceSub, Int.reduceMul, Int.reduceMod, Int.reduceNeg, Int.reduceLT, Int.reduceLE, Int.reduceBEq, decide_true, decide_false, Bool.not_true, Bool.not_false, true_and, and_true, Nat.zero_add]
    try refine ⟨(show 2 ≤ lim by decide), (show 2 ≤ lim by decide), (show 2 ≤ lim by decide), ?_⟩
    refine sp_law_some (by simp) (by simp) fun x hx => ?_
    simp only [List.mem_cons, List.mem_nil_iff, or_false] at hx
    rcases hx with rfl | rfl
    · exact h _ _ w1 w2 p1 p2
    · exact h _ _ (by omega) (by omega) p1 p2
  · rw [decide_eq_false c]
    simp only [n_eVar, n_eVarB, varQ_fz, varB_fz, varB_ow, n_eC, n_eCall, n_aCons, n_aNil, n_eBin, n_eUn, n_eTup, n_eLst, n_eIf, n_eAnd, n_eOr, n_eNot, n_eChain, n_tVal, n_tNot, n_tAnd, n_tOr, n_tTrue,
 n_sSeq, n_sIf, n_sNil, n_sRet, n_sExpr, n_sBreak, n_sCont, n_sSet, n_sSetO, n_sSetZ, n_sFrz, n_sFor, n_gN, pq2_e, n_sPar, n_sParFG, n_sParGF, n_sParFF, n_sP3, n_sP4, n_eTupR, n_eLstR, n_eRevT, q_revT, n_sAsg, n_gTn_t, n_gTn_k, n_gsCons, n_gsNil, n_eLC, n_iSeq, n_seq_s, n_seq_l, n_seq_t, n_seq_k,
 rq1_e, rq2_e, n_iRng1m, n_iRng2m, n_eSl, n_oNone, n_oSome, n_eMeth, n_eRev, apQ_e, n_sAppend, n_sAug, n_fnM, n_ret, n_ask, n_dTuple, cif_t, cif_f, isB_bl, isI_int, optP_s, hasT,
 getS, setS, frzS, startE, slK, wipeE, put0, put1, put2, put3, q_add_i, q_add_s, q_add_t, q_add_l, q_sub, q_mul_i, q_mul_s, q_mod, q_neg, q_lt, q_le, q_gt, q_ge, q_eq_i, q_ne_i, q_eq_s, q_ne_s, q_is_bb, q_is_bn, q_is_in, q_is_sn, q_is_tn, q_is_nn, q_isn_bb, q_isn_bn, q_isn_in, q_isn_sn, q_isn_tn, q_isn_nn,
 q_it_l, q_it_t, q_it_k, q_it_s, at0, at1, at2, at3, atm1_1, atm1_2, atm1_a, q_len_s, q_len_l, q_len_t, q_isi, q_int, q_str, ty_int, ty_str, ty_bl, ty_lst, ty_tup, ty_kt, ty_non, isiT, q_sl_s, q_sl_t, q_sl_l,
 n_iZipU, n_iEnU, eqU_l, zqU_ll, zqU_lt, zqU_ls, eqU_t, zqU_tl, zqU_tt, zqU_ts, eqU_s, zqU_sl, zqU_st, zqU_ss, eqU_k,
 List.map_cons, List.map_nil, List.length_cons, List.length_nil, List.cons_append, List.nil_append, List.append_nil, List.replicate_zero, List.replicate_succ, Nat.reduceAdd, Nat.reduceSub, Nat.reduceEqDiff, Nat.reduceLeDiff, Int.reduceAdd, Int.reduceSub, Int.reduceMul, Int.reduceMod, Int.reduceNeg, Int.reduceLT, Int.reduceLE, Int.reduceBEq, decide_true, decide_false, Bool.not_true, Bool.not_false, true_and, and_true, Nat.zero_add]
    try refine ⟨(show 2 ≤ lim by decide), (show 2 ≤ lim by decide), (show 2 ≤ lim by decide), ?_⟩
    refine sp_law_some (by simp) (by simp) fun x hx => ?_
    simp only [List.mem_cons, List.mem_nil_iff, or_false] at hx
    rcases hx with rfl | rfl
    · exact h _ _ w1 w2 p1 p2
    · exact h _ _ w1 w2 p1 p2
/-- least and greatest -/
theorem sp_least_in {l : List (Int × Int)} (hne : l ≠ []) (hb : ∀ x ∈ l, -1000000000 ≤ x.1 ∧ x.1 ≤ 1000000000 ∧ -1000000000 ≤ x.2 ∧ x.2 ≤ 1000000000) (h : ∀ m ∈ l, (∀ x ∈ l, posS (x.1 - m.1) (x.2 - m.2)) → P (prD2 m)) : m_least_in [.lst (l.map prD2)] P := by
  cases l with
  | nil => exact absurd rfl hne
  | cons x0 xs =>
    simp only [m_least_in, S_least_in, n_eVar, n_eVarB, varQ_fz, varB_fz, varB_ow, n_eC, n_eCall, n_aCons, n_aNil, n_eBin, n_eUn, n_eTup, n_eLst, n_eIf, n_eAnd, n_eOr, n_eNot, n_eChain, n_tVal, n_tNot, n_tAnd, n_tOr, n_tTrue,
 n_sSeq, n_sIf, n_sNil, n_sRet, n_sExpr, n_sBreak, n_sCont, n_sSet, n_sSetO, n_sSetZ, n_sFrz, n_sFor, n_gN, pq2_e, n_sPar, n_sParFG, n_sParGF, n_sParFF, n_sP3, n_sP4, n_eTupR, n_eLstR, n_eRevT, q_revT, n_sAsg, n_gTn_t, n_gTn_k, n_gsCons, n_gsNil, n_eLC, n_iSeq, n_seq_s, n_seq_l, n_seq_t, n_seq_k,
 rq1_e, rq2_e, n_iRng1m, n_iRng2m, n_eSl, n_oNone, n_oSome, n_eMeth, n_eRev, apQ_e, n_sAppend, n_sAug, n_fnM, n_ret, n_ask, n_dTuple, cif_t, cif_f, isB_bl, isI_int, optP_s, hasT,
 getS, setS, frzS, startE, slK, wipeE, put0, put1, put2, put3, q_add_i, q_add_s, q_add_t, q_add_l, q_sub, q_mul_i, q_mul_s, q_mod, q_neg, q_lt, q_le, q_gt, q_ge, q_eq_i, q_ne_i, q_eq_s, q_ne_s, q_is_bb, q_is_bn, q_is_in, q_is_sn, q_is_tn, q_is_nn, q_isn_bb, q_isn_bn, q_isn_in, q_isn_sn, q_isn_tn, q_isn_nn,
 q_it_l, q_it_t, q_it_k, q_it_s, at0, at1, at2, at3, atm1_1, atm1_2, atm1_a, q_len_s, q_len_l, q_len_t, q_isi, q_int, q_str, ty_int, ty_str, ty_bl, ty_lst, ty_tup, ty_kt, ty_non, isiT, q_sl_s, q_sl_t, q_sl_l,
 n_iZipU, n_iEnU, eqU_l, zqU_ll, zqU_lt, zqU_ls, eqU_t, zqU_tl, zqU_tt, zqU_ts, eqU_s, zqU_sl, zqU_st, zqU_ss, eqU_k,
 List.map_cons, List.map_nil, List.length_cons, List.length_nil, List.cons_append, List.nil_append, List.append_nil, List.replicate_zero, List.replicate_succ, Nat.reduceAdd, Nat.reduceSub, Nat.reduceEqDiff, Nat.reduceLeDiff, Int.reduceAdd, Int.reduceSub, Int.reduceMul, Int.reduceMod, Int.reduceNeg, Int.reduceLT, Int.reduceLE, Int.reduceBEq, decide_true, decide_false, Bool.not_true, Bool.not_false, true_and, and_true, Nat.zero_add]
    rw [show prD2 x0 :: List.map prD2 xs = List.map prD2 (x0 :: xs) from rfl]
    refine forW_ind (fun ds env => ∃ (m : Int × Int) (rest : List (Int × Int)) (x2 : Sl), ds = rest.map prD2 ∧ env = [.fz (.lst ((x0 :: xs).map prD2)), .fz (prD2 m), x2] ∧ m ∈ x0 :: xs ∧ (∀ x ∈ rest, x ∈ x0 :: xs) ∧ (∀ x ∈ x0 :: xs, x ∈ rest ∨ posS (x.1 - m.1) (x.2 - m.2))) ?_ ?_ _ _ ⟨x0, x0 :: xs, _, rfl, rfl, List.mem_cons_self, fun x h => h, fun x h => .inl h⟩
    · rintro env ⟨m, rest, x2, hr, rfl, hm, h1, h2⟩
      cases rest with
      | nil =>
        refine h m hm fun x hx => ?_
        rcases h2 x hx with z | z
        · cases z
        · exact z
      | cons y r => cases hr
    · rintro d ds env K ⟨m, rest, x2, hr, rfl, hm, h1, h2⟩ hK
      cases rest with
      | nil => cases hr
      | cons y r =>
        cases hr
        have hy := h1 y List.mem_cons_self
        have bm := hb m hm
        have by_ := hb y hy
        simp only [n_eVar, n_eVarB, varQ_fz, varB_fz, varB_ow, n_eC, n_eCall, n_aCons, n_aNil, n_eBin, n_eUn, n_eTup, n_eLst, n_eIf, n_eAnd, n_eOr, n_eNot, n_eChain, n_tVal, n_tNot, n_tAnd, n_tOr, n_tTrue,
 n_sSeq, n_sIf, n_sNil, n_sRet, n_sExpr, n_sBreak, n_sCont, n_sSet, n_sSetO, n_sSetZ, n_sFrz, n_sFor, n_gN, pq2_e, n_sPar, n_sParFG, n_sParGF, n_sParFF, n_sP3, n_sP4, n_eTupR, n_eLstR, n_eRevT, q_revT, n_sAsg, n_gTn_t, n_gTn_k, n_gsCons, n_gsNil, n_eLC, n_iSeq, n_seq_s, n_seq_l, n_seq_t, n_seq_k,
 rq1_e, rq2_e, n_iRng1m, n_iRng2m, n_eSl, n_oNone, n_oSome, n_eMeth, n_eRev, apQ_e, n_sAppend, n_sAug, n_fnM, n_ret, n_ask, n_dTuple, cif_t, cif_f, isB_bl, isI_int, optP_s, hasT,
 getS, setS, frzS, startE, slK, wipeE, put0, put1, put2, put3, q_add_i, q_add_s, q_add_t, q_add_l, q_sub, q_mul_i, q_mul_s, q_mod, q_neg, q_lt, q_le, q_gt, q_ge, q_eq_i, q_ne_i, q_eq_s, q_ne_s, q_is_bb, q_is_bn, q_is_in, q_is_sn, q_is_tn, q_is_nn, q_isn_bb, q_isn_bn, q_isn_in, q_isn_sn, q_isn_tn, q_isn_nn,
 q_it_l, q_it_t, q_it_k, q_it_s, at0, at1, at2, at3, atm1_1, atm1_2, atm1_a, q_len_s, q_len_l, q_len_t, q_isi, q_int, q_str, ty_int, ty_str, ty_bl, ty_lst, ty_tup, ty_kt, ty_non, isiT, q_sl_s, q_sl_t, q_sl_l,
 n_iZipU, n_iEnU, eqU_l, zqU_ll, zqU_lt, zqU_ls, eqU_t, zqU_tl, zqU_tt, zqU_ts, eqU_s, zqU_sl, zqU_st, zqU_ss, eqU_k,
 List.map_cons, List.map_nil, List.length_cons, List.length_nil, List.cons_append, List.nil_append, List.append_nil, List.replicate_zero, List.replicate_succ, Nat.reduceAdd, Nat.reduceSub, Nat.reduceEqDiff, Nat.reduceLeDiff, Int.reduceAdd, Int.reduceSub, Int.reduceMul, Int.reduceMod, Int.reduceNeg, Int.reduceLT, Int.reduceLE, Int.reduceBEq, decide_true, decide_false, Bool.not_true, Bool.not_false, true_and, and_true, Nat.zero_add]
        refine sp_minus (.inl rfl) (.inl rfl) (sp_sign_in (by unfold small; omega) (by unfold small; omega) ?_)
        simp only [n_eVar, n_eVarB, varQ_fz, varB_fz, varB_ow, n_eC, n_eCall, n_aCons, n_aNil, n_eBin, n_eUn, n_eTup, n_eLst, n_eIf, n_eAnd, n_eOr, n_eNot, n_eChain, n_tVal, n_tNot, n_tAnd, n_tOr, n_tTrue,
 n_sSeq, n_sIf, n_sNil, n_sRet, n_sExpr, n_sBreak, n_sCont, n_sSet, n_sSetO, n_sSetZ, n_sFrz, n_sFor, n_gN, pq2_e, n_sPar, n_sParFG, n_sParGF, n_sParFF, n_sP3, n_sP4, n_eTupR, n_eLstR, n_eRevT, q_revT, n_sAsg, n_gTn_t, n_gTn_k, n_gsCons, n_gsNil, n_eLC, n_iSeq, n_seq_s, n_seq_l, n_seq_t, n_seq_k,
 rq1_e, rq2_e, n_iRng1m, n_iRng2m, n_eSl, n_oNone, n_oSome, n_eMeth, n_eRev, apQ_e, n_sAppend, n_sAug, n_fnM, n_ret, n_ask, n_dTuple, cif_t, cif_f, isB_bl, isI_int, optP_s, hasT,
 getS, setS, frzS, startE, slK, wipeE, put0, put1, put2, put3, q_add_i, q_add_s, q_add_t, q_add_l, q_sub, q_mul_i, q_mul_s, q_mod, q_neg, q_lt, q_le, q_gt, q_ge, q_eq_i, q_ne_i, q_eq_s, q_ne_s, q_is_bb, q_is_bn, q_is_in, q_is_sn, q_is_tn, q_is_nn, q_isn_bb, q_isn_bn, q_isn_in, q_isn_sn, q_isn_tn, q_isn_nn,
 q_it_l, q_it_t, q_it_k, q_it_s, at0, at1, at2, at3, atm1_1, atm1_2, atm1_a, q_len_s, q_len_l, q_len_t, q_isi, q_int, q_str, ty_int, ty_str, ty_bl, ty_lst, ty_tup, ty_kt, ty_non, isiT, q_sl_s, q_sl_t, q_sl_l,
 n_iZipU, n_iEnU, eqU_l, zqU_ll, zqU_lt, zqU_ls, eqU_t, zqU_tl, zqU_tt, zqU_ts, eqU_s, zqU_sl, zqU_st, zqU_ss, eqU_k,
 List.map_cons, List.map_nil, List.length_cons, List.length_nil, List.cons_append, List.nil_append, List.append_nil, List.replicate_zero, List.replicate_succ, Nat.reduceAdd, Nat.reduceSub, Nat.reduceEqDiff, Nat.reduceLeDiff, Int.reduceAdd, Int.reduceSub, Int.reduceMul, Int.reduceMod, Int.reduceNeg, Int.reduceLT, Int.reduceLE, Int.reduceBEq, decide_true, decide_false, Bool.not_true, Bool.not_false, true_and, and_true, Nat.zero_add]
        by_cases c : sg (m.1 - y.1) (m.2 - y.2) > 0
        · rw [decide_eq_true c]
          simp only [n_eVar, n_eVarB, varQ_fz, varB_fz, varB_ow, n_eC, n_eCall, n_aCons, n_aNil, n_eBin, n_eUn, n_eTup, n_eLst, n_eIf, n_eAnd, n_eOr, n_eNot, n_eChain, n_tVal, n_tNot, n_tAnd, n_tOr, n_tTrue,
 n_sSeq, n_sIf, n_sNil, n_sRet, n_sExpr, n_sBreak, n_sCont, n_sSet, n_sSetO, n_sSetZ, n_sFrz, n_sFor, n_gN, pq2_e, n_sPar, n_sParFG, n_sParGF, n_sParFF, n_sP3, n_sP4, n_eTupR, n_eLstR, n_eRevT, q_revT, n_sAsg, n_gTn_t, n_gTn_k, n_gsCons, n_gsNil, n_eLC, n_iSeq, n_seq_s, n_seq_l, n_seq_t, n_seq_k,
 rq1_e, rq2_e, n_iRng1m, n_iRng2m, n_eSl, n_oNone, n_oSome, n_eMeth, n_eRev, apQ_e, n_sAppend, n_sAug, n_fnM, n_ret, n_ask, n_dTuple, cif_t, cif_f, isB_bl, isI_int, optP_s, hasT,
 getS, setS, frzS, startE, slK, wipeE, put0, put1, put2, put3, q_add_i, q_add_s, q_add_t, q_add_l, q_sub, q_mul_i, q_mul_s, q_mod, q_neg, q_lt, q_le, q_gt, q_ge, q_eq_i, q_ne_i, q_eq_s, q_ne_s, q_is_bb, q_is_bn, q_is_in, q_is_sn, q_is_tn, q_is_nn, q_isn_bb, q_isn_bn, q_isn_in, q_isn_sn, q_isn_tn, q_isn_nn,
 q_it_l, q_it_t, q_it_k, q_it_s, at0, at1, at2, at3, atm1_1, atm1_2, atm1_a, q_len_s, q_len_l, q_len_t, q_isi, q_int, q_str, ty_int, ty_str, ty_bl, ty_lst, ty_tup, ty_kt, ty_non, isiT, q_sl_s, q_sl_t, q_sl_l,
 n_iZipU, n_iEnU, eqU_l, zqU_ll, zqU_lt, zqU_ls, eqU_t, zqU_tl, zqU_tt, zqU_ts, eqU_s, zqU_sl, zqU_st, zqU_ss, eqU_k,
 List.map_cons, List.map_nil, List.length_cons, List.length_nil, List.cons_append, List.nil_append, List.append_nil, List.replicate_zero, List.replicate_succ, Nat.reduceAdd, Nat.reduceSub, Nat.reduceEqDiff, Nat.reduceLeDiff, Int.reduceAdd, Int.reduceSub, Int.reduceMul, Int.reduceMod, Int.reduceNeg, Int.reduceLT, Int.reduceLE, Int.reduceBEq, decide_true, decide_false, Bool.not_true, Bool.not_false, true_and, and_true, Nat.zero_add]
          have py : posS (m.1 - y.1) (m.2 - y.2) := sg_pos.mp (by omega)
          refine hK _ ⟨y, r, _, rfl, rfl, hy, fun x hx => h1 x (List.mem_cons_of_mem _ hx), fun x hx => ?_⟩
          rcases h2 x hx with z | z
          · rcases List.mem_cons.mp z with z | z
            · rw [z]; exact .inr (pos_nn (by omega) (by omega))
            · exact .inl z
          · have := pos_add z py
            rw [show x.1 - m.1 + (m.1 - y.1) = x.1 - y.1 by omega, show x.2 - m.2 + (m.2 - y.2) = x.2 - y.2 by omega] at this
            exact .inr this
        · rw [decide_eq_false c]
          simp only [n_eVar, n_eVarB, varQ_fz, varB_fz, varB_ow, n_eC, n_eCall, n_aCons, n_aNil, n_eBin, n_eUn, n_eTup, n_eLst, n_eIf, n_eAnd, n_eOr, n_eNot, n_eChain, n_tVal, n_tNot, n_tAnd, n_tOr, n_tTrue,
 n_sSeq, n_sIf, n_sNil, n_sRet, n_sExpr, n_sBreak, n_sCont, n_sSet, n_sSetO, n_sSetZ, n_sFrz, n_sFor, n_gN, pq2_e, n_sPar, n_sParFG, n_sParGF, n_sParFF, n_sP3, n_sP4, n_eTupR, n_eLstR, n_eRevT, q_revT, n_sAsg, n_gTn_t, n_gTn_k, n_gsCons, n_gsNil, n_eLC, n_iSeq, n_seq_s, n_seq_l, n_seq_t, n_seq_k,
 rq1_e, rq2_e, n_iRng1m, n_iRng2m, n_eSl, n_oNone, n_oSome, n_eMeth, n_eRev, apQ_e, n_sAppend, n_sAug, n_fnM, n_ret, n_ask, n_dTuple, cif_t, cif_f, isB_bl, isI_int, optP_s, hasT,
 getS, setS, frzS, startE, slK, wipeE, put0, put1, put2, put3, q_add_i, q_add_s, q_add_t, q_add_l, q_sub, q_mul_i, q_mul_s, q_mod, q_neg, q_lt, q_le, q_gt, q_ge, q_eq_i, q_ne_i, q_eq_s, q_ne_s, q_is_bb, q_is_bn, q_is_in, q_is_sn, q_is_tn, q_is_nn, q_isn_bb, q_isn_bn, q_isn_in, q_isn_sn, q_isn_tn, q_isn_nn,
 q_it_l, q_it_t, q_it_k, q_it_s, at0, at1, at2, at3, atm1_1, atm1_2, atm1_a, q_len_s, q_len_l, q_len_t, q_isi, q_int, q_str, ty_int, ty_str, ty_bl, ty_lst, ty_tup, ty_kt, ty_non, isiT, q_sl_s, q_sl_t, q_sl_l,
 n_iZipU, n_iEnU, eqU_l, zqU_ll, zqU_lt, zqU_ls, eqU_t, zqU_tl, zqU_tt, zqU_ts, eqU_s, zqU_sl, zqU_st, zqU_ss, eqU_k,
 List.map_cons, List.map_nil, List.length_cons, List.length_nil, List.cons_append, List.nil_append, List.append_nil, List.replicate_zero, List.replicate_succ, Nat.reduceAdd, Nat.reduceSub, Nat.reduceEqDiff, Nat.reduceLeDiff, Int.reduceAdd, Int.reduceSub, Int.reduceMul, Int.reduceMod, Int.reduceNeg, Int.reduceLT, Int.reduceLE, Int.reduceBEq, decide_true, decide_false, Bool.not_true, Bool.not_false, true_and, and_true, Nat.zero_add]
          have py : posS (y.1 - m.1) (y.2 - m.2) := by
            have := sg_neg (a := m.1 - y.1) (b := m.2 - y.2)
            rw [show -(m.1 - y.1) = y.1 - m.1 by omega, show -(m.2 - y.2) = y.2 - m.2 by omega] at this
            exact sg_pos.mp (by omega)
          refine hK _ ⟨m, r, _, rfl, rfl, hm, fun x hx => h1 x (List.mem_cons_of_mem _ hx), fun x hx => ?_⟩
          rcases h2 x hx with z | z
          · rcases List.mem_cons.mp z with z | z
            · rw [z]; exact .inr py
            · exact .inl z
          · exact .inr z
theorem sp_greatest_in {l : List (Int × Int)} (hne : l ≠ []) (hb : ∀ x ∈ l, -1000000000 ≤ x.1 ∧ x.1 ≤ 1000000000 ∧ -1000000000 ≤ x.2 ∧ x.2 ≤ 1000000000) (h : ∀ m ∈ l, (∀ x ∈ l, posS (m.1 - x.1) (m.2 - x.2)) → P (prD2 m)) : m_greatest_in [.lst (l.map prD2)] P := by
  cases l with
  | nil => exact absurd rfl hne
  | cons x0 xs =>
    simp only [m_greatest_in, S_greatest_in, n_eVar, n_eVarB, varQ_fz, varB_fz, varB_ow, n_eC, n_eCall, n_aCons, n_aNil, n_eBin, n_eUn, n_eTup, n_eLst, n_eIf, n_eAnd, n_eOr, n_eNot, n_eChain, n_tVal, n_tNot, n_tAnd, n_tOr, n_tTrue,
 n_sSeq, n_sIf, n_sNil, n_sRet, n_sExpr, n_sBreak, n_sCont, n_sSet, n_sSetO, n_sSetZ, n_sFrz, n_sFor, n_gN, pq2_e, n_sPar, n_sParFG, n_sParGF, n_sParFF, n_sP3, n_sP4, n_eTupR, n_eLstR, n_eRevT, q_revT, n_sAsg, n_gTn_t, n_gTn_k, n_gsCons, n_gsNil, n_eLC, n_iSeq, n_seq_s, n_seq_l, n_seq_t, n_seq_k,
 rq1_e, rq2_e, n_iRng1m, n_iRng2m, n_eSl, n_oNone, n_oSome, n_eMeth, n_eRev, apQ_e, n_sAppend, n_sAug, n_fnM, n_ret, n_ask, n_dTuple, cif_t, cif_f, isB_bl, isI_int, optP_s, hasT,
 getS, setS, frzS, startE, slK, wipeE, put0, put1, put2, put3, q_add_i, q_add_s, q_add_t, q_add_l, q_sub, q_mul_i, q_mul_s, q_mod, q_neg, q_lt, q_le, q_gt, q_ge, q_eq_i, q_ne_i, q_eq_s, q_ne_s, q_is_bb, q_is_bn, q_is_in, q_is_sn, q_is_tn, q_is_nn, q_isn_bb, q_isn_bn, q_isn_in, q_isn_sn, q_isn_tn, q_isn_nn,
 q_it_l, q_it_t, q_it_k, q_it_s, at0, at1, at2, at3, atm1_1, atm1_2, atm1_a, q_len_s, q_len_l, q_len_t, q_isi, q_int, q_str, ty_int, ty_str, ty_bl, ty_lst, ty_tup, ty_kt, ty_non, isiT, q_sl_s, q_sl_t, q_sl_l,
 n_iZipU, n_iEnU, eqU_l, zqU_ll, zqU_lt, zqU_ls, eqU_t, zqU_tl, zqU_tt, zqU_ts, eqU_s, zqU_sl, zqU_st, zqU_ss, eqU_k,
 List.map_cons, List.map_nil, List.length_cons, List.length_nil, List.cons_append, List.nil_append, List.append_nil, List.replicate_zero, List.replicate_succ, Nat.reduceAdd, Nat.reduceSub, Nat.reduceEqDiff, Nat.reduceLeDiff, Int.reduceAdd, Int.reduceSub, Int.reduceMul, Int.reduceMod, Int.reduceNeg, Int.reduceLT, Int.reduceLE, Int.reduceBEq, decide_true, decide_false, Bool.not_true, Bool.not_false, true_and, and_true, Nat.zero_add]
    rw [show prD2 x0 :: List.map prD2 xs = List.map prD2 (x0 :: xs) from rfl]
    refine forW_ind (fun ds env => ∃ (m : Int × Int) (rest : List (Int × Int)) (x2 : Sl), ds = rest.map prD2 ∧ env = [.fz (.lst ((x0 :: xs).map prD2)), .fz (prD2 m), x2] ∧ m ∈ x0 :: xs ∧ (∀ x ∈ rest, x ∈ x0 :: xs) ∧ (∀ x ∈ x0 :: xs, x ∈ rest ∨ posS (m.1 - x.1) (m.2 - x.2))) ?_ ?_ _ _ ⟨x0, x0 :: xs, _, rfl, rfl, List.mem_cons_self, fun x h => h, fun x h => .inl h⟩
    · rintro env ⟨m, rest, x2, hr, rfl, hm, h1, h2⟩
      cases rest with
      | nil =>
        refine h m hm fun x hx => ?_
        rcases h2 x hx with z | z
        · cases z
        · exact z
      | cons y r => cases hr
    · rintro d ds env K ⟨m, rest, x2, hr, rfl, hm, h1, h2⟩ hK
      cases rest with
      | nil => cases hr
      | cons y r =>
        cases hr
        have hy := h1 y List.mem_cons_self
        have bm := hb m hm
        have by_ := hb y hy
        simp only [n_eVar, n_eVarB, varQ_fz, varB_fz, varB_ow, n_eC, n_eCall, n_aCons, n_aNil, n_eBin, n_eUn, n_eTup, n_eLst, n_eIf, n_eAnd, n_eOr, n_eNot, n_eChain, n_tVal, n_tNot, n_tAnd, n_tOr, n_tTrue,
 n_sSeq, n_sIf, n_sNil, n_sRet, n_sExpr, n_sBreak, n_sCont, n_sSet, n_sSetO, n_sSetZ, n_sFrz, n_sFor, n_gN, pq2_e, n_sPar, n_sParFG, n_sParGF, n_sParFF, n_sP3, n_sP4, n_eTupR, n_eLstR, n_eRevT, q_revT, n_sAsg, n_gTn_t, n_gTn_k, n_gsCons, n_gsNil, n_eLC, n_iSeq, n_seq_s, n_seq_l, n_seq_t, n_seq_k,
 rq1_e, rq2_e, n_iRng1m, n_iRng2m, n_eSl, n_oNone, n_oSome, n_eMeth, n_eRev, apQ_e, n_sAppend, n_sAug, n_fnM, n_ret, n_ask, n_dTuple, cif_t, cif_f, isB_bl, isI_int, optP_s, hasT,
 getS, setS, frzS, startE, slK, wipeE, put0, put1, put2, put3, q_add_i, q_add_s, q_add_t, q_add_l, q_sub, q_mul_i, q_mul_s, q_mod, q_neg, q_lt, q_le, q_gt, q_ge, q_eq_i, q_ne_i, q_eq_s, q_ne_s, q_is_bb, q_is_bn, q_is_in, q_is_sn, q_is_tn, q_is_nn, q_isn_bb, q_isn_bn, q_isn_in, q_isn_sn, q_isn_tn, q_isn_nn,
 q_it_l, q_it_t, q_it_k, q_it_s, at0, at1, at2, at3, atm1_1, atm1_2, atm1_a, q_len_s, q_len_l, q_len_t, q_isi, q_int, q_str, ty_int, ty_str, ty_bl, ty_lst, ty_tup, ty_kt, ty_non, isiT, q_sl_s, q_sl_t, q_sl_l,
 n_iZipU, n_iEnU, eqU_l, zqU_ll, zqU_lt, zqU_ls, eqU_t, zqU_tl, zqU_tt, zqU_ts, eqU_s, zqU_sl, zqU_st, zqU_ss, eqU_k,
 List.map_cons, List.map_nil, List.length_cons, List.length_nil, List.cons_append, List.nil_append, List.append_nil, List.replicate_zero, List.replicate_succ, Nat.reduceAdd, Nat.reduceSub, Nat.reduceEqDiff, Nat.reduceLeDiff, Int.reduceAdd, Int.reduceSub, Int.reduceMul, Int.reduceMod, Int.reduceNeg, Int.reduceLT, Int.reduceLE, Int.reduceBEq, decide_true, decide_false, Bool.not_true, Bool.not_false, true_and, and_true, Nat.zero_add]
        refine sp_minus (.inl rfl) (.inl rfl) (sp_sign_in (by unfold small; omega) (by unfold small; omega) ?_)
        simp only [n_eVar, n_eVarB, varQ_fz, varB_fz, varB_ow, n_eC, n_eCall, n_aCons, n_aNil, n_eBin, n_eUn, n_eTup, n_eLst, n_eIf, n_eAnd, n_eOr, n_eNot, n_eChain, n_tVal, n_tNot, n_tAnd, n_tOr, n_tTrue,
 n_sSeq, n_sIf, n_sNil, n_sRet, n_sExpr, n_sBreak, n_sCont, n_sSet, n_sSetO, n_sSetZ, n_sFrz, n_sFor, n_gN, pq2_e, n_sPar, n_sParFG, n_sParGF, n_sParFF, n_sP3, n_sP4, n_eTupR, n_eLstR, n_eRevT, q_revT, n_sAsg, n_gTn_t, n_gTn_k, n_gsCons, n_gsNil, n_eLC, n_iSeq, n_seq_s, n_seq_l, n_seq_t, n_seq_k,
 rq1_e, rq2_e, n_iRng1m, n_iRng2m, n_eSl, n_oNone, n_oSome, n_eMeth, n_eRev, apQ_e, n_sAppend, n_sAug, n_fnM, n_ret, n_ask, n_dTuple, cif_t, cif_f, isB_bl, isI_int, optP_s, hasT,
 getS, setS, frzS, startE, slK, wipeE, put0, put1, put2, put3, q_add_i, q_add_s, q_add_t, q_add_l, q_sub, q_mul_i, q_mul_s, q_mod, q_neg, q_lt, q_le, q_gt, q_ge, q_eq_i, q_ne_i, q_eq_s, q_ne_s, q_is_bb, q_is_bn, q_is_in, q_is_sn, q_is_tn, q_is_nn, q_isn_bb, q_isn_bn, q_isn_in, q_isn_sn, q_isn_tn, q_isn_nn,
 q_it_l, q_it_t, q_it_k, q_it_s, at0, at1, at2, at3, atm1_1, atm1_2, atm1_a, q_len_s, q_len_l, q_len_t, q_isi, q_int, q_str, ty_int, ty_str, ty_bl, ty_lst, ty_tup, ty_kt, ty_non, isiT, q_sl_s, q_sl_t, q_sl_l,
 n_iZipU, n_iEnU, eqU_l, zqU_ll, zqU_lt, zqU_ls, eqU_t, zqU_tl, zqU_tt, zqU_ts, eqU_s, zqU_sl, zqU_st, zqU_ss, eqU_k,
 List.map_cons, List.map_nil, List.length_cons, List.length_nil, List.cons_append, List.nil_append, List.append_nil, List.replicate_zero, List.replicate_succ, Nat.reduceAdd, Nat.reduceSub, Nat.reduceEqDiff, Nat.reduceLeDiff, Int.reduceAdd, Int.reduceSub, Int.reduceMul, Int.reduceMod, Int.reduceNeg, Int.reduceLT, Int.reduceLE, Int.reduceBEq, decide_true, decide_false, Bool.not_true, Bool.not_false, true_and, and_true, Nat.zero_add]
        by_cases c : sg (y.1 - m.1) (y.2 - m.2) > 0
        · rw [decide_eq_true c]
          simp only [n_eVar, n_eVarB, varQ_fz, varB_fz, varB_ow, n_eC, n_eCall, n_aCons, n_aNil, n_eBin, n_eUn, n_eTup, n_eLst, n_eIf, n_eAnd, n_eOr, n_eNot, n_eChain, n_tVal, n_tNot, n_tAnd, n_tOr, n_tTrue,
 n_sSeq, n_sIf, n_sNil, n_sRet, n_sExpr, n_sBreak, n_sCont, n_sSet, n_sSetO, n_sSetZ, n_sFrz, n_sFor, n_gN, pq2_e, n_sPar, n_sParFG, n_sParGF, n_sParFF, n_sP3, n_sP4, n_eTupR, n_eLstR, n_eRevT, q_revT, n_sAsg, n_gTn_t, n_gTn_k, n_gsCons, n_gsNil, n_eLC, n_iSeq, n_seq_s, n_seq_l, n_seq_t, n_seq_k,
 rq1_e, rq2_e, n_iRng1m, n_iRng2m, n_eSl, n_oNone, n_oSome, n_eMeth, n_eRev, apQ_e, n_sAppend, n_sAug, n_fnM, n_ret, n_ask, n_dTuple, cif_t, cif_f, isB_bl, isI_int, optP_s, hasT,
 getS, setS, frzS, startE, slK, wipeE, put0, put1, put2, put3, q_add_i, q_add_s, q_add_t, q_add_l, q_sub, q_mul_i, q_mul_s, q_mod, q_neg, q_lt, q_le, q_gt, q_ge, q_eq_i, q_ne_i, q_eq_s, q_ne_s, q_is_bb, q_is_bn, q_is_in, q_is_sn, q_is_tn, q_is_nn, q_isn_bb, q_isn_bn, q_isn_in, q_isn_sn, q_isn_tn, q_isn_nn,
 q_it_l, q_it_t, q_it_k, q_it_s, at0, at1, at2, at3, atm1_1, atm1_2, atm1_a, q_len_s, q_len_l, q_len_t, q_isi, q_int, q_str, ty_int, ty_str, ty_bl, ty_lst, ty_tup, ty_kt, ty_non, isiT, q_sl_s, q_sl_t, q_sl_l,
 n_iZipU, n_iEnU, eqU_l, zqU_ll, zqU_lt, zqU_ls, eqU_t, zqU_tl, zqU_tt, zqU_ts, eqU_s, zqU_sl, zqU_st, zqU_ss, eqU_k,
 List.map_cons, List.map_nil, List.length_cons, List.length_nil, List.cons_append, List.nil_append, List.append_nil, List.replicate_zero, List.replicate_succ, Nat.reduceAdd, Nat.reduceSub, Nat.reduceEqDiff, Nat.reduceLeDiff, Int.reduceAdd, Int.reduceSub, Int.reduceMul, Int.reduceMod, Int.reduceNeg, Int.reduceLT, Int.reduceLE, Int.reduceBEq, decide_true, decide_false, Bool.not_true, Bool.not_false, true_and, and_true, Nat.zero_add]
          have py : posS (y.1 - m.1) (y.2 - m.2) := sg_pos.mp (by omega)
          refine hK _ ⟨y, r, _, rfl, rfl, hy, fun x hx => h1 x (List.mem_cons_of_mem _ hx), fun x hx => ?_⟩
          rcases h2 x hx with z | z
          · rcases List.mem_cons.mp z with z | z
            · rw [z]; exact .inr (pos_nn (by omega) (by omega))
            · exact .inl z
          · have := pos_add z py
            rw [show m.1 - x.1 + (y.1 - m.1) = y.1 - x.1 by omega, show m.2 - x.2 + (y.2 - m.2) = y.2 - x.2 by omega] at this
            exact .inr this
        · rw [decide_eq_false c]
          simp only [n_eVar, n_eVarB, varQ_fz, varB_fz, varB_ow, n_eC, n_eCall, n_aCons, n_aNil, n_eBin, n_eUn, n_eTup, n_eLst, n_eIf, n_eAnd, n_eOr, n_eNot, n_eChain, n_tVal, n_tNot, n_tAnd, n_tOr, n_tTrue,
 n_sSeq, n_sIf, n_sNil, n_sRet, n_sExpr, n_sBreak, n_sCont, n_sSet, n_sSetO, n_sSetZ, n_sFrz, n_sFor, n_gN, pq2_e, n_sPar, n_sParFG, n_sParGF, n_sParFF, n_sP3, n_sP4, n_eTupR, n_eLstR, n_eRevT, q_revT, n_sAsg, n_gTn_t, n_gTn_k, n_gsCons, n_gsNil, n_eLC, n_iSeq, n_seq_s, n_seq_l, n_seq_t, n_seq_k,
 rq1_e, rq2_e, n_iRng1m, n_iRng2m, n_eSl, n_oNone, n_oSome, n_eMeth, n_eRev, apQ_e, n_sAppend, n_sAug, n_fnM, n_ret, n_ask, n_dTuple, cif_t, cif_f, isB_bl, isI_int, optP_s, hasT,
 getS, setS, frzS, startE, slK, wipeE, put0, put1, put2, put3, q_add_i, q_add_s, q_add_t, q_add_l, q_sub, q_mul_i, q_mul_s, q_mod, q_neg, q_lt, q_le, q_gt, q_ge, q_eq_i, q_ne_i, q_eq_s, q_ne_s, q_is_bb, q_is_bn, q_is_in, q_is_sn, q_is_tn, q_is_nn, q_isn_bb, q_isn_bn, q_isn_in, q_isn_sn, q_isn_tn, q_isn_nn,
 q_it_l, q_it_t, q_it_k, q_it_s, at0, at1, at2, at3, atm1_1, atm1_2, atm1_a, q_len_s, q_len_l, q_len_t, q_isi, q_int, q_str, ty_int, ty_str, ty_bl, ty_lst, ty_tup, ty_kt, ty_non, isiT, q_sl_s, q_sl_t, q_sl_l,
 n_iZipU, n_iEnU, eqU_l, zqU_ll, zqU_lt, zqU_ls, eqU_t, zqU_tl, zqU_tt, zqU_ts, eqU_s, zqU_sl, zqU_st, zqU_ss, eqU_k,
 List.map_cons, List.map_nil, List.length_cons, List.length_nil, List.cons_append, List.nil_append, List.append_nil, List.replicate_zero, List.replicate_succ, Nat.reduceAdd, Nat.reduceSub, Nat.reduceEqDiff, Nat.reduceLeDiff, Int.reduceAdd, Int.reduceSub, Int.reduceMul, Int.reduceMod, Int.reduceNeg, Int.reduceLT, Int.reduceLE, Int.reduceBEq, decide_true, decide_false, Bool.not_true, Bool.not_false, true_and, and_true, Nat.zero_add]
          have py : posS (m.1 - y.1) (m.2 - y.2) := by
            have := sg_neg (a := y.1 - m.1) (b := y.2 - m.2)
            rw [show -(y.1 - m.1) = m.1 - y.1 by omega, show -(y.2 - m.2) = m.2 - y.2 by omega] at this
            exact sg_pos.mp (by omega)
          refine hK _ ⟨m, r, _, rfl, rfl, hm, fun x hx => h1 x (List.mem_cons_of_mem _ hx), fun x hx => ?_⟩
          rcases h2 x hx with z | z
          · rcases List.mem_cons.mp z with z | z
            · rw [z]; exact .inr py
            · exact .inl z
          · exact .inr z
end L37
set_option Elab.async false
set_option linter.all false
set_option maxRecDepth 100000
set_option maxHeartbeats 2000000
namespace L37
open G
variable {P : D → Prop}
/-- bounds along a word -/
def bE (n : Int) (q : Q4) : Prop := -n ≤ q.a ∧ q.a ≤ n ∧ -n ≤ q.b ∧ q.b ≤ n ∧ -n ≤ q.c ∧ q.c ≤ n ∧ -n ≤ q.d ∧ q.d ≤ n
theorem bE_rotk {n : Int} {q : Q4} (h : bE n q) : ∀ k, bE n (rotk k q)
  | 0 => h
  | k + 1 => by
    have ih := bE_rotk h k
    obtain ⟨a, b, c, d, e, f, g, i⟩ := ih
    show bE n ⟨-(rotk k q).d, (rotk k q).a, (rotk k q).b, (rotk k q).c⟩
    exact ⟨by simp only; omega, by simp only; omega, a, b, c, d, e, f⟩
theorem bE_dlt (c : Nat) : bE 1 (dlt c) := by
  unfold dlt
  split
  · exact ⟨by decide, by decide, by decide, by decide, by decide, by decide, by decide, by decide⟩
  · split
    · exact ⟨by decide, by decide, by decide, by decide, by decide, by decide, by decide, by decide⟩
    · exact ⟨by decide, by decide, by decide, by decide, by decide, by decide, by decide, by decide⟩
theorem bE_step {n : Int} {e : E8} (h : bE n e.z) (c : Nat) : bE (n + 1) (stepE e c).z := by
  have r : bE 1 (rotW e.w (dlt c)) := bE_rotk (bE_dlt c) _
  show bE (n + 1) (qadd e.z (rotW e.w (dlt c)))
  generalize rotW e.w (dlt c) = q at r
  unfold bE at *
  unfold qadd
  simp only
  omega
theorem bE_trail : ∀ (s : List Nat) (n : Int) (e : E8), bE n e.z → ∀ x ∈ trailE e s, bE (n + s.length) x.z
  | [], n, e, h, x, hx => by
    rw [List.mem_singleton.mp hx]
    simpa using h
  | c :: s, n, e, h, x, hx => by
    rcases List.mem_cons.mp hx with z | z
    · rw [z]; unfold bE at *; rw [List.length_cons]; omega
    · have := bE_trail s (n + 1) (stepE e c) (bE_step h c) x z
      rw [List.length_cons]
      unfold bE at *
      omega
theorem bE_all {s : List Nat} (hl : s.length ≤ 120) {e : E8} (he : e ∈ trailE e0 s) : bE 120 e.z := by
  have := bE_trail s 0 e0 (by unfold bE; decide) e he
  unfold bE at *
  omega
theorem trail_end (s : List Nat) : endE e0 s ∈ trailE e0 s := List.mem_of_getLast? (trail_last e0 s)
def rgt (e : E8) : Int × Int := (2 * e.z.a, e.z.b - e.z.d)
def upw (e : E8) : Int × Int := (2 * e.z.c, e.z.b + e.z.d)
def sqE (e : E8) : Int × Int := ((rgt e).1 * (rgt e).1 + 2 * (rgt e).2 * (rgt e).2 + (upw e).1 * (upw e).1 + 2 * (upw e).2 * (upw e).2, 2 * (rgt e).1 * (rgt e).2 + 2 * (upw e).1 * (upw e).2)
theorem tD_eq (e : E8) : tD e = .tup [prD2 (rgt e), prD2 (upw e), .int e.w] := rfl
theorem co_bnd {e : E8} (h : bE 120 e.z) : -300 ≤ (rgt e).1 ∧ (rgt e).1 ≤ 300 ∧ -300 ≤ (rgt e).2 ∧ (rgt e).2 ≤ 300 ∧ -300 ≤ (upw e).1 ∧ (upw e).1 ≤ 300 ∧ -300 ≤ (upw e).2 ∧ (upw e).2 ≤ 300 := by
  unfold bE at h
  unfold rgt upw
  simp only
  omega
theorem pr_bnd {x y : Int} (hx1 : -300 ≤ x) (hx2 : x ≤ 300) (hy1 : -300 ≤ y) (hy2 : y ≤ 300) : -90000 ≤ x * y ∧ x * y ≤ 90000 := by
  have a := sq_bnd hx1 hx2
  have b := sq_bnd hy1 hy2
  have c := sq_nn (x + y)
  have d := sq_nn (x - y)
  have e1 : (x + y) * (x + y) = x * x + 2 * (x * y) + y * y := by grind
  have e2 : (x - y) * (x - y) = x * x - 2 * (x * y) + y * y := by grind
  omega
theorem sq_bE {e : E8} (h : bE 120 e.z) : -600000 ≤ (sqE e).1 ∧ (sqE e).1 ≤ 600000 ∧ -600000 ≤ (sqE e).2 ∧ (sqE e).2 ≤ 600000 := by
  obtain ⟨a, b, c, d, f, g, i, j⟩ := co_bnd h
  have p1 := pr_bnd a b a b
  have p2 := pr_bnd c d c d
  have p3 := pr_bnd f g f g
  have p4 := pr_bnd i j i j
  have p5 := pr_bnd a b c d
  have p6 := pr_bnd f g i j
  unfold sqE
  simp only [Int.mul_assoc]
  omega
theorem sm_k {x : Int} (h1 : -1000000 ≤ x) (h2 : x ≤ 1000000) : small x := by unfold small; omega
theorem sp_square_in {e : E8} (h : bE 120 e.z) (k : P (prD2 (sqE e))) : m_square_in [tD e] P := by
  obtain ⟨a, b, c, d, f, g, i, j⟩ := co_bnd h
  have s1 : small (rgt e).1 := sm_k (by omega) (by omega)
  have s2 : small (rgt e).2 := sm_k (by omega) (by omega)
  have s3 : small (upw e).1 := sm_k (by omega) (by omega)
  have s4 : small (upw e).2 := sm_k (by omega) (by omega)
  simp only [m_square_in, S_square_in, tD_eq, n_eVar, n_eVarB, varQ_fz, varB_fz, varB_ow, n_eC, n_eCall, n_aCons, n_aNil, n_eBin, n_eUn, n_eTup, n_eLst, n_eIf, n_eAnd, n_eOr, n_eNot, n_eChain, n_tVal, n_tNot, n_tAnd, n_tOr, n_tTrue,
 n_sSeq, n_sIf, n_sNil, n_sRet, n_sExpr, n_sBreak, n_sCont, n_sSet, n_sSetO, n_sSetZ, n_sFrz, n_sFor, n_gN, pq2_e, n_sPar, n_sParFG, n_sParGF, n_sParFF, n_sP3, n_sP4, n_eTupR, n_eLstR, n_eRevT, q_revT, n_sAsg, n_gTn_t, n_gTn_k, n_gsCons, n_gsNil, n_eLC, n_iSeq, n_seq_s, n_seq_l, n_seq_t, n_seq_k,
 rq1_e, rq2_e, n_iRng1m, n_iRng2m, n_eSl, n_oNone, n_oSome, n_eMeth, n_eRev, apQ_e, n_sAppend, n_sAug, n_fnM, n_ret, n_ask, n_dTuple, cif_t, cif_f, isB_bl, isI_int, optP_s, hasT,
 getS, setS, frzS, startE, slK, wipeE, put0, put1, put2, put3, q_add_i, q_add_s, q_add_t, q_add_l, q_sub, q_mul_i, q_mul_s, q_mod, q_neg, q_lt, q_le, q_gt, q_ge, q_eq_i, q_ne_i, q_eq_s, q_ne_s, q_is_bb, q_is_bn, q_is_in, q_is_sn, q_is_tn, q_is_nn, q_isn_bb, q_isn_bn, q_isn_in, q_isn_sn, q_isn_tn, q_isn_nn,
 q_it_l, q_it_t, q_it_k, q_it_s, at0, at1, at2, at3, atm1_1, atm1_2, atm1_a, q_len_s, q_len_l, q_len_t, q_isi, q_int, q_str, ty_int, ty_str, ty_bl, ty_lst, ty_tup, ty_kt, ty_non, isiT, q_sl_s, q_sl_t, q_sl_l,
 n_iZipU, n_iEnU, eqU_l, zqU_ll, zqU_lt, zqU_ls, eqU_t, zqU_tl, zqU_tt, zqU_ts, eqU_s, zqU_sl, zqU_st, zqU_ss, eqU_k,
 List.map_cons, List.map_nil, List.length_cons, List.length_nil, List.cons_append, List.nil_append, List.append_nil, List.replicate_zero, List.replicate_succ, Nat.reduceAdd, Nat.reduceSub, Nat.reduceEqDiff, Nat.reduceLeDiff, Int.reduceAdd, Int.reduceSub, Int.reduceMul, Int.reduceMod, Int.reduceNeg, Int.reduceLT, Int.reduceLE, Int.reduceBEq, decide_true, decide_false, Bool.not_true, Bool.not_false, true_and, and_true, Nat.zero_add]
  have cut2 : ∀ x y z : D, cutD [x, y, z] none (some 2) = [x, y] := fun x y z => rfl
  try rw [cut2]
  try simp only [n_eVar, n_eVarB, varQ_fz, varB_fz, varB_ow, n_eC, n_eCall, n_aCons, n_aNil, n_eBin, n_eUn, n_eTup, n_eLst, n_eIf, n_eAnd, n_eOr, n_eNot, n_eChain, n_tVal, n_tNot, n_tAnd, n_tOr, n_tTrue,
 n_sSeq, n_sIf, n_sNil, n_sRet, n_sExpr, n_sBreak, n_sCont, n_sSet, n_sSetO, n_sSetZ, n_sFrz, n_sFor, n_gN, pq2_e, n_sPar, n_sParFG, n_sParGF, n_sParFF, n_sP3, n_sP4, n_eTupR, n_eLstR, n_eRevT, q_revT, n_sAsg, n_gTn_t, n_gTn_k, n_gsCons, n_gsNil, n_eLC, n_iSeq, n_seq_s, n_seq_l, n_seq_t, n_seq_k,
 rq1_e, rq2_e, n_iRng1m, n_iRng2m, n_eSl, n_oNone, n_oSome, n_eMeth, n_eRev, apQ_e, n_sAppend, n_sAug, n_fnM, n_ret, n_ask, n_dTuple, cif_t, cif_f, isB_bl, isI_int, optP_s, hasT,
 getS, setS, frzS, startE, slK, wipeE, put0, put1, put2, put3, q_add_i, q_add_s, q_add_t, q_add_l, q_sub, q_mul_i, q_mul_s, q_mod, q_neg, q_lt, q_le, q_gt, q_ge, q_eq_i, q_ne_i, q_eq_s, q_ne_s, q_is_bb, q_is_bn, q_is_in, q_is_sn, q_is_tn, q_is_nn, q_isn_bb, q_isn_bn, q_isn_in, q_isn_sn, q_isn_tn, q_isn_nn,
 q_it_l, q_it_t, q_it_k, q_it_s, at0, at1, at2, at3, atm1_1, atm1_2, atm1_a, q_len_s, q_len_l, q_len_t, q_isi, q_int, q_str, ty_int, ty_str, ty_bl, ty_lst, ty_tup, ty_kt, ty_non, isiT, q_sl_s, q_sl_t, q_sl_l,
 n_iZipU, n_iEnU, eqU_l, zqU_ll, zqU_lt, zqU_ls, eqU_t, zqU_tl, zqU_tt, zqU_ts, eqU_s, zqU_sl, zqU_st, zqU_ss, eqU_k,
 List.map_cons, List.map_nil, List.length_cons, List.length_nil, List.cons_append, List.nil_append, List.append_nil, List.replicate_zero, List.replicate_succ, Nat.reduceAdd, Nat.reduceSub, Nat.reduceEqDiff, Nat.reduceLeDiff, Int.reduceAdd, Int.reduceSub, Int.reduceMul, Int.reduceMod, Int.reduceNeg, Int.reduceLT, Int.reduceLE, Int.reduceBEq, decide_true, decide_false, Bool.not_true, Bool.not_false, true_and, and_true, Nat.zero_add]
  exact ⟨.inl s1, .inr s2, .inr s2, .inl s3, .inr s4, .inr s4, .inr s1, .inr s2, .inr s3, .inr s4, (show 2 ≤ lim by decide), k⟩
theorem sp_box {s : List Nat} (hl : s.length ≤ 120) (hs : s.all isPc = true)
    (h : ∀ a b c d : Int × Int, a ∈ (trailE e0 s).map rgt → b ∈ (trailE e0 s).map rgt → c ∈ (trailE e0 s).map upw → d ∈ (trailE e0 s).map upw → (∀ x ∈ (trailE e0 s).map rgt, posS (x.1 - a.1) (x.2 - a.2)) → (∀ x ∈ (trailE e0 s).map rgt, posS (b.1 - x.1) (b.2 - x.2)) → (∀ x ∈ (trailE e0 s).map upw, posS (x.1 - c.1) (x.2 - c.2)) → (∀ x ∈ (trailE e0 s).map upw, posS (d.1 - x.1) (d.2 - x.2)) → P (.tup [prD2 a, prD2 b, prD2 c, prD2 d])) : m_box_by_eighths [.str s] P := by
  simp only [m_box_by_eighths, S_box_by_eighths, n_eVar, n_eVarB, varQ_fz, varB_fz, varB_ow, n_eC, n_eCall, n_aCons, n_aNil, n_eBin, n_eUn, n_eTup, n_eLst, n_eIf, n_eAnd, n_eOr, n_eNot, n_eChain, n_tVal, n_tNot, n_tAnd, n_tOr, n_tTrue,
 n_sSeq, n_sIf, n_sNil, n_sRet, n_sExpr, n_sBreak, n_sCont, n_sSet, n_sSetO, n_sSetZ, n_sFrz, n_sFor, n_gN, pq2_e, n_sPar, n_sParFG, n_sParGF, n_sParFF, n_sP3, n_sP4, n_eTupR, n_eLstR, n_eRevT, q_revT, n_sAsg, n_gTn_t, n_gTn_k, n_gsCons, n_gsNil, n_eLC, n_iSeq, n_seq_s, n_seq_l, n_seq_t, n_seq_k,
 rq1_e, rq2_e, n_iRng1m, n_iRng2m, n_eSl, n_oNone, n_oSome, n_eMeth, n_eRev, apQ_e, n_sAppend, n_sAug, n_fnM, n_ret, n_ask, n_dTuple, cif_t, cif_f, isB_bl, isI_int, optP_s, hasT,
 getS, setS, frzS, startE, slK, wipeE, put0, put1, put2, put3, q_add_i, q_add_s, q_add_t, q_add_l, q_sub, q_mul_i, q_mul_s, q_mod, q_neg, q_lt, q_le, q_gt, q_ge, q_eq_i, q_ne_i, q_eq_s, q_ne_s, q_is_bb, q_is_bn, q_is_in, q_is_sn, q_is_tn, q_is_nn, q_isn_bb, q_isn_bn, q_isn_in, q_isn_sn, q_isn_tn, q_isn_nn,
 q_it_l, q_it_t, q_it_k, q_it_s, at0, at1, at2, at3, atm1_1, atm1_2, atm1_a, q_len_s, q_len_l, q_len_t, q_isi, q_int, q_str, ty_int, ty_str, ty_bl, ty_lst, ty_tup, ty_kt, ty_non, isiT, q_sl_s, q_sl_t, q_sl_l,
 n_iZipU, n_iEnU, eqU_l, zqU_ll, zqU_lt, zqU_ls, eqU_t, zqU_tl, zqU_tt, zqU_ts, eqU_s, zqU_sl, zqU_st, zqU_ss, eqU_k,
 List.map_cons, List.map_nil, List.length_cons, List.length_nil, List.cons_append, List.nil_append, List.append_nil, List.replicate_zero, List.replicate_succ, Nat.reduceAdd, Nat.reduceSub, Nat.reduceEqDiff, Nat.reduceLeDiff, Int.reduceAdd, Int.reduceSub, Int.reduceMul, Int.reduceMod, Int.reduceNeg, Int.reduceLT, Int.reduceLE, Int.reduceBEq, decide_true, decide_false, Bool.not_true, Bool.not_false, true_and, and_true, Nat.zero_add]
  refine sp_need_eighths hl hs (sp_along_in hs (by omega) ?_)
  try simp only [n_eVar, n_eVarB, varQ_fz, varB_fz, varB_ow, n_eC, n_eCall, n_aCons, n_aNil, n_eBin, n_eUn, n_eTup, n_eLst, n_eIf, n_eAnd, n_eOr, n_eNot, n_eChain, n_tVal, n_tNot, n_tAnd, n_tOr, n_tTrue,
 n_sSeq, n_sIf, n_sNil, n_sRet, n_sExpr, n_sBreak, n_sCont, n_sSet, n_sSetO, n_sSetZ, n_sFrz, n_sFor, n_gN, pq2_e, n_sPar, n_sParFG, n_sParGF, n_sParFF, n_sP3, n_sP4, n_eTupR, n_eLstR, n_eRevT, q_revT, n_sAsg, n_gTn_t, n_gTn_k, n_gsCons, n_gsNil, n_eLC, n_iSeq, n_seq_s, n_seq_l, n_seq_t, n_seq_k,
 rq1_e, rq2_e, n_iRng1m, n_iRng2m, n_eSl, n_oNone, n_oSome, n_eMeth, n_eRev, apQ_e, n_sAppend, n_sAug, n_fnM, n_ret, n_ask, n_dTuple, cif_t, cif_f, isB_bl, isI_int, optP_s, hasT,
 getS, setS, frzS, startE, slK, wipeE, put0, put1, put2, put3, q_add_i, q_add_s, q_add_t, q_add_l, q_sub, q_mul_i, q_mul_s, q_mod, q_neg, q_lt, q_le, q_gt, q_ge, q_eq_i, q_ne_i, q_eq_s, q_ne_s, q_is_bb, q_is_bn, q_is_in, q_is_sn, q_is_tn, q_is_nn, q_isn_bb, q_isn_bn, q_isn_in, q_isn_sn, q_isn_tn, q_isn_nn,
 q_it_l, q_it_t, q_it_k, q_it_s, at0, at1, at2, at3, atm1_1, atm1_2, atm1_a, q_len_s, q_len_l, q_len_t, q_isi, q_int, q_str, ty_int, ty_str, ty_bl, ty_lst, ty_tup, ty_kt, ty_non, isiT, q_sl_s, q_sl_t, q_sl_l,
 n_iZipU, n_iEnU, eqU_l, zqU_ll, zqU_lt, zqU_ls, eqU_t, zqU_tl, zqU_tt, zqU_ts, eqU_s, zqU_sl, zqU_st, zqU_ss, eqU_k,
 List.map_cons, List.map_nil, List.length_cons, List.length_nil, List.cons_append, List.nil_append, List.append_nil, List.replicate_zero, List.replicate_succ, Nat.reduceAdd, Nat.reduceSub, Nat.reduceEqDiff, Nat.reduceLeDiff, Int.reduceAdd, Int.reduceSub, Int.reduceMul, Int.reduceMod, Int.reduceNeg, Int.reduceLT, Int.reduceLE, Int.reduceBEq, decide_true, decide_false, Bool.not_true, Bool.not_false, true_and, and_true, Nat.zero_add]
  have ln : ((trailE e0 s).map tD).length ≤ lim := by rw [List.length_map, trail_len]; simp only [lim]; omega
  refine ⟨ln, ?_⟩
  refine lc_eachm tD (fun e => prD2 (rgt e)) _ (fun e he K hK => ?_) ?_
  · simp only [tD_eq, n_eVar, n_eVarB, varQ_fz, varB_fz, varB_ow, n_eC, n_eCall, n_aCons, n_aNil, n_eBin, n_eUn, n_eTup, n_eLst, n_eIf, n_eAnd, n_eOr, n_eNot, n_eChain, n_tVal, n_tNot, n_tAnd, n_tOr, n_tTrue,
 n_sSeq, n_sIf, n_sNil, n_sRet, n_sExpr, n_sBreak, n_sCont, n_sSet, n_sSetO, n_sSetZ, n_sFrz, n_sFor, n_gN, pq2_e, n_sPar, n_sParFG, n_sParGF, n_sParFF, n_sP3, n_sP4, n_eTupR, n_eLstR, n_eRevT, q_revT, n_sAsg, n_gTn_t, n_gTn_k, n_gsCons, n_gsNil, n_eLC, n_iSeq, n_seq_s, n_seq_l, n_seq_t, n_seq_k,
 rq1_e, rq2_e, n_iRng1m, n_iRng2m, n_eSl, n_oNone, n_oSome, n_eMeth, n_eRev, apQ_e, n_sAppend, n_sAug, n_fnM, n_ret, n_ask, n_dTuple, cif_t, cif_f, isB_bl, isI_int, optP_s, hasT,
 getS, setS, frzS, startE, slK, wipeE, put0, put1, put2, put3, q_add_i, q_add_s, q_add_t, q_add_l, q_sub, q_mul_i, q_mul_s, q_mod, q_neg, q_lt, q_le, q_gt, q_ge, q_eq_i, q_ne_i, q_eq_s, q_ne_s, q_is_bb, q_is_bn, q_is_in, q_is_sn, q_is_tn, q_is_nn, q_isn_bb, q_isn_bn, q_isn_in, q_isn_sn, q_isn_tn, q_isn_nn,
 q_it_l, q_it_t, q_it_k, q_it_s, at0, at1, at2, at3, atm1_1, atm1_2, atm1_a, q_len_s, q_len_l, q_len_t, q_isi, q_int, q_str, ty_int, ty_str, ty_bl, ty_lst, ty_tup, ty_kt, ty_non, isiT, q_sl_s, q_sl_t, q_sl_l,
 n_iZipU, n_iEnU, eqU_l, zqU_ll, zqU_lt, zqU_ls, eqU_t, zqU_tl, zqU_tt, zqU_ts, eqU_s, zqU_sl, zqU_st, zqU_ss, eqU_k,
 List.map_cons, List.map_nil, List.length_cons, List.length_nil, List.cons_append, List.nil_append, List.append_nil, List.replicate_zero, List.replicate_succ, Nat.reduceAdd, Nat.reduceSub, Nat.reduceEqDiff, Nat.reduceLeDiff, Int.reduceAdd, Int.reduceSub, Int.reduceMul, Int.reduceMod, Int.reduceNeg, Int.reduceLT, Int.reduceLE, Int.reduceBEq, decide_true, decide_false, Bool.not_true, Bool.not_false, true_and, and_true, Nat.zero_add]
    exact hK
  try simp only [n_eVar, n_eVarB, varQ_fz, varB_fz, varB_ow, n_eC, n_eCall, n_aCons, n_aNil, n_eBin, n_eUn, n_eTup, n_eLst, n_eIf, n_eAnd, n_eOr, n_eNot, n_eChain, n_tVal, n_tNot, n_tAnd, n_tOr, n_tTrue,
 n_sSeq, n_sIf, n_sNil, n_sRet, n_sExpr, n_sBreak, n_sCont, n_sSet, n_sSetO, n_sSetZ, n_sFrz, n_sFor, n_gN, pq2_e, n_sPar, n_sParFG, n_sParGF, n_sParFF, n_sP3, n_sP4, n_eTupR, n_eLstR, n_eRevT, q_revT, n_sAsg, n_gTn_t, n_gTn_k, n_gsCons, n_gsNil, n_eLC, n_iSeq, n_seq_s, n_seq_l, n_seq_t, n_seq_k,
 rq1_e, rq2_e, n_iRng1m, n_iRng2m, n_eSl, n_oNone, n_oSome, n_eMeth, n_eRev, apQ_e, n_sAppend, n_sAug, n_fnM, n_ret, n_ask, n_dTuple, cif_t, cif_f, isB_bl, isI_int, optP_s, hasT,
 getS, setS, frzS, startE, slK, wipeE, put0, put1, put2, put3, q_add_i, q_add_s, q_add_t, q_add_l, q_sub, q_mul_i, q_mul_s, q_mod, q_neg, q_lt, q_le, q_gt, q_ge, q_eq_i, q_ne_i, q_eq_s, q_ne_s, q_is_bb, q_is_bn, q_is_in, q_is_sn, q_is_tn, q_is_nn, q_isn_bb, q_isn_bn, q_isn_in, q_isn_sn, q_isn_tn, q_isn_nn,
 q_it_l, q_it_t, q_it_k, q_it_s, at0, at1, at2, at3, atm1_1, atm1_2, atm1_a, q_len_s, q_len_l, q_len_t, q_isi, q_int, q_str, ty_int, ty_str, ty_bl, ty_lst, ty_tup, ty_kt, ty_non, isiT, q_sl_s, q_sl_t, q_sl_l,
 n_iZipU, n_iEnU, eqU_l, zqU_ll, zqU_lt, zqU_ls, eqU_t, zqU_tl, zqU_tt, zqU_ts, eqU_s, zqU_sl, zqU_st, zqU_ss, eqU_k,
 List.map_cons, List.map_nil, List.length_cons, List.length_nil, List.cons_append, List.nil_append, List.append_nil, List.replicate_zero, List.replicate_succ, Nat.reduceAdd, Nat.reduceSub, Nat.reduceEqDiff, Nat.reduceLeDiff, Int.reduceAdd, Int.reduceSub, Int.reduceMul, Int.reduceMod, Int.reduceNeg, Int.reduceLT, Int.reduceLE, Int.reduceBEq, decide_true, decide_false, Bool.not_true, Bool.not_false, true_and, and_true, Nat.zero_add]
  refine ⟨ln, ?_⟩
  refine lc_eachm tD (fun e => prD2 (upw e)) _ (fun e he K hK => ?_) ?_
  · simp only [tD_eq, n_eVar, n_eVarB, varQ_fz, varB_fz, varB_ow, n_eC, n_eCall, n_aCons, n_aNil, n_eBin, n_eUn, n_eTup, n_eLst, n_eIf, n_eAnd, n_eOr, n_eNot, n_eChain, n_tVal, n_tNot, n_tAnd, n_tOr, n_tTrue,
 n_sSeq, n_sIf, n_sNil, n_sRet, n_sExpr, n_sBreak, n_sCont, n_sSet, n_sSetO, n_sSetZ, n_sFrz, n_sFor, n_gN, pq2_e, n_sPar, n_sParFG, n_sParGF, n_sParFF, n_sP3, n_sP4, n_eTupR, n_eLstR, n_eRevT, q_revT, n_sAsg, n_gTn_t, n_gTn_k, n_gsCons, n_gsNil, n_eLC, n_iSeq, n_seq_s, n_seq_l, n_seq_t, n_seq_k,
 rq1_e, rq2_e, n_iRng1m, n_iRng2m, n_eSl, n_oNone, n_oSome, n_eMeth, n_eRev, apQ_e, n_sAppend, n_sAug, n_fnM, n_ret, n_ask, n_dTuple, cif_t, cif_f, isB_bl, isI_int, optP_s, hasT,
 getS, setS, frzS, startE, slK, wipeE, put0, put1, put2, put3, q_add_i, q_add_s, q_add_t, q_add_l, q_sub, q_mul_i, q_mul_s, q_mod, q_neg, q_lt, q_le, q_gt, q_ge, q_eq_i, q_ne_i, q_eq_s, q_ne_s, q_is_bb, q_is_bn, q_is_in, q_is_sn, q_is_tn, q_is_nn, q_isn_bb, q_isn_bn, q_isn_in, q_isn_sn, q_isn_tn, q_isn_nn,
 q_it_l, q_it_t, q_it_k, q_it_s, at0, at1, at2, at3, atm1_1, atm1_2, atm1_a, q_len_s, q_len_l, q_len_t, q_isi, q_int, q_str, ty_int, ty_str, ty_bl, ty_lst, ty_tup, ty_kt, ty_non, isiT, q_sl_s, q_sl_t, q_sl_l,
 n_iZipU, n_iEnU, eqU_l, zqU_ll, zqU_lt, zqU_ls, eqU_t, zqU_tl, zqU_tt, zqU_ts, eqU_s, zqU_sl, zqU_st, zqU_ss, eqU_k,
 List.map_cons, List.map_nil, List.length_cons, List.length_nil, List.cons_append, List.nil_append, List.append_nil, List.replicate_zero, List.replicate_succ, Nat.reduceAdd, Nat.reduceSub, Nat.reduceEqDiff, Nat.reduceLeDiff, Int.reduceAdd, Int.reduceSub, Int.reduceMul, Int.reduceMod, Int.reduceNeg, Int.reduceLT, Int.reduceLE, Int.reduceBEq, decide_true, decide_false, Bool.not_true, Bool.not_false, true_and, and_true, Nat.zero_add]
    exact hK
  have ne : trailE e0 s ≠ [] := by
    intro z
    have := congrArg List.length z
    rw [trail_len, List.length_nil] at this
    omega
  have b1 : ∀ x ∈ (trailE e0 s).map rgt, -1000000000 ≤ x.1 ∧ x.1 ≤ 1000000000 ∧ -1000000000 ≤ x.2 ∧ x.2 ≤ 1000000000 := fun x hx => by
    obtain ⟨e, he, rfl⟩ := List.mem_map.mp hx
    have := co_bnd (bE_all hl he)
    omega
  have b2 : ∀ x ∈ (trailE e0 s).map upw, -1000000000 ≤ x.1 ∧ x.1 ≤ 1000000000 ∧ -1000000000 ≤ x.2 ∧ x.2 ≤ 1000000000 := fun x hx => by
    obtain ⟨e, he, rfl⟩ := List.mem_map.mp hx
    have := co_bnd (bE_all hl he)
    omega
  have n1 : (trailE e0 s).map rgt ≠ [] := fun z => ne (List.map_eq_nil_iff.mp z)
  have n2 : (trailE e0 s).map upw ≠ [] := fun z => ne (List.map_eq_nil_iff.mp z)
  rw [show List.map (fun e => prD2 (rgt e)) (trailE e0 s) = ((trailE e0 s).map rgt).map prD2 by rw [List.map_map]; rfl, show List.map (fun e => prD2 (upw e)) (trailE e0 s) = ((trailE e0 s).map upw).map prD2 by rw [List.map_map]; rfl]
  refine sp_least_in n1 b1 fun a ha a2 => sp_greatest_in n1 b1 fun b hb b3 => sp_least_in n2 b2 fun c hc c2 => sp_greatest_in n2 b2 fun d hd d2 => ⟨(show 4 ≤ lim by decide), ?_⟩
  exact h a b c d ha hb hc hd a2 b3 c2 d2
theorem sp_far_squared {s : List Nat} (hl : s.length ≤ 120) (hs : s.all isPc = true) (h : P (prD2 (sqE (endE e0 s)))) : m_far_squared [.str s] P := by
  simp only [m_far_squared, S_far_squared, n_eVar, n_eVarB, varQ_fz, varB_fz, varB_ow, n_eC, n_eCall, n_aCons, n_aNil, n_eBin, n_eUn, n_eTup, n_eLst, n_eIf, n_eAnd, n_eOr, n_eNot, n_eChain, n_tVal, n_tNot, n_tAnd, n_tOr, n_tTrue,
 n_sSeq, n_sIf, n_sNil, n_sRet, n_sExpr, n_sBreak, n_sCont, n_sSet, n_sSetO, n_sSetZ, n_sFrz, n_sFor, n_gN, pq2_e, n_sPar, n_sParFG, n_sParGF, n_sParFF, n_sP3, n_sP4, n_eTupR, n_eLstR, n_eRevT, q_revT, n_sAsg, n_gTn_t, n_gTn_k, n_gsCons, n_gsNil, n_eLC, n_iSeq, n_seq_s, n_seq_l, n_seq_t, n_seq_k,
 rq1_e, rq2_e, n_iRng1m, n_iRng2m, n_eSl, n_oNone, n_oSome, n_eMeth, n_eRev, apQ_e, n_sAppend, n_sAug, n_fnM, n_ret, n_ask, n_dTuple, cif_t, cif_f, isB_bl, isI_int, optP_s, hasT,
 getS, setS, frzS, startE, slK, wipeE, put0, put1, put2, put3, q_add_i, q_add_s, q_add_t, q_add_l, q_sub, q_mul_i, q_mul_s, q_mod, q_neg, q_lt, q_le, q_gt, q_ge, q_eq_i, q_ne_i, q_eq_s, q_ne_s, q_is_bb, q_is_bn, q_is_in, q_is_sn, q_is_tn, q_is_nn, q_isn_bb, q_isn_bn, q_isn_in, q_isn_sn, q_isn_tn, q_isn_nn,
 q_it_l, q_it_t, q_it_k, q_it_s, at0, at1, at2, at3, atm1_1, atm1_2, atm1_a, q_len_s, q_len_l, q_len_t, q_isi, q_int, q_str, ty_int, ty_str, ty_bl, ty_lst, ty_tup, ty_kt, ty_non, isiT, q_sl_s, q_sl_t, q_sl_l,
 n_iZipU, n_iEnU, eqU_l, zqU_ll, zqU_lt, zqU_ls, eqU_t, zqU_tl, zqU_tt, zqU_ts, eqU_s, zqU_sl, zqU_st, zqU_ss, eqU_k,
 List.map_cons, List.map_nil, List.length_cons, List.length_nil, List.cons_append, List.nil_append, List.append_nil, List.replicate_zero, List.replicate_succ, Nat.reduceAdd, Nat.reduceSub, Nat.reduceEqDiff, Nat.reduceLeDiff, Int.reduceAdd, Int.reduceSub, Int.reduceMul, Int.reduceMod, Int.reduceNeg, Int.reduceLT, Int.reduceLE, Int.reduceBEq, decide_true, decide_false, Bool.not_true, Bool.not_false, true_and, and_true, Nat.zero_add]
  refine sp_need_eighths hl hs (sp_along_in hs (by omega) ?_)
  rw [q_it_l, atD_last (x := tD (endE e0 s)) (by rw [List.getLast?_map, trail_last]; rfl), optP_s]
  exact sp_square_in (bE_all hl (trail_end s)) h
theorem sp_cell_of {s : List Nat} (hl : s.length ≤ 120) (hs : s.all isPc = true) (h : ∀ v w, posS ((rgt (endE e0 s)).1 - 2 * v) (rgt (endE e0 s)).2 → ¬ posS ((rgt (endE e0 s)).1 - 2 * v - 2) (rgt (endE e0 s)).2 → posS ((upw (endE e0 s)).1 - 2 * w) (upw (endE e0 s)).2 → ¬ posS ((upw (endE e0 s)).1 - 2 * w - 2) (upw (endE e0 s)).2 → P (.tup [.int v, .int w])) : m_cell_of [.str s] P := by
  simp only [m_cell_of, S_cell_of, n_eVar, n_eVarB, varQ_fz, varB_fz, varB_ow, n_eC, n_eCall, n_aCons, n_aNil, n_eBin, n_eUn, n_eTup, n_eLst, n_eIf, n_eAnd, n_eOr, n_eNot, n_eChain, n_tVal, n_tNot, n_tAnd, n_tOr, n_tTrue,
 n_sSeq, n_sIf, n_sNil, n_sRet, n_sExpr, n_sBreak, n_sCont, n_sSet, n_sSetO, n_sSetZ, n_sFrz, n_sFor, n_gN, pq2_e, n_sPar, n_sParFG, n_sParGF, n_sParFF, n_sP3, n_sP4, n_eTupR, n_eLstR, n_eRevT, q_revT, n_sAsg, n_gTn_t, n_gTn_k, n_gsCons, n_gsNil, n_eLC, n_iSeq, n_seq_s, n_seq_l, n_seq_t, n_seq_k,
 rq1_e, rq2_e, n_iRng1m, n_iRng2m, n_eSl, n_oNone, n_oSome, n_eMeth, n_eRev, apQ_e, n_sAppend, n_sAug, n_fnM, n_ret, n_ask, n_dTuple, cif_t, cif_f, isB_bl, isI_int, optP_s, hasT,
 getS, setS, frzS, startE, slK, wipeE, put0, put1, put2, put3, q_add_i, q_add_s, q_add_t, q_add_l, q_sub, q_mul_i, q_mul_s, q_mod, q_neg, q_lt, q_le, q_gt, q_ge, q_eq_i, q_ne_i, q_eq_s, q_ne_s, q_is_bb, q_is_bn, q_is_in, q_is_sn, q_is_tn, q_is_nn, q_isn_bb, q_isn_bn, q_isn_in, q_isn_sn, q_isn_tn, q_isn_nn,
 q_it_l, q_it_t, q_it_k, q_it_s, at0, at1, at2, at3, atm1_1, atm1_2, atm1_a, q_len_s, q_len_l, q_len_t, q_isi, q_int, q_str, ty_int, ty_str, ty_bl, ty_lst, ty_tup, ty_kt, ty_non, isiT, q_sl_s, q_sl_t, q_sl_l,
 n_iZipU, n_iEnU, eqU_l, zqU_ll, zqU_lt, zqU_ls, eqU_t, zqU_tl, zqU_tt, zqU_ts, eqU_s, zqU_sl, zqU_st, zqU_ss, eqU_k,
 List.map_cons, List.map_nil, List.length_cons, List.length_nil, List.cons_append, List.nil_append, List.append_nil, List.replicate_zero, List.replicate_succ, Nat.reduceAdd, Nat.reduceSub, Nat.reduceEqDiff, Nat.reduceLeDiff, Int.reduceAdd, Int.reduceSub, Int.reduceMul, Int.reduceMod, Int.reduceNeg, Int.reduceLT, Int.reduceLE, Int.reduceBEq, decide_true, decide_false, Bool.not_true, Bool.not_false, true_and, and_true, Nat.zero_add]
  refine sp_need_eighths hl hs (sp_along_in hs (by omega) ?_)
  rw [q_it_l, atD_last (x := tD (endE e0 s)) (by rw [List.getLast?_map, trail_last]; rfl), optP_s]
  have := co_bnd (bE_all hl (trail_end s))
  simp only [tD_eq, n_eVar, n_eVarB, varQ_fz, varB_fz, varB_ow, n_eC, n_eCall, n_aCons, n_aNil, n_eBin, n_eUn, n_eTup, n_eLst, n_eIf, n_eAnd, n_eOr, n_eNot, n_eChain, n_tVal, n_tNot, n_tAnd, n_tOr, n_tTrue,
 n_sSeq, n_sIf, n_sNil, n_sRet, n_sExpr, n_sBreak, n_sCont, n_sSet, n_sSetO, n_sSetZ, n_sFrz, n_sFor, n_gN, pq2_e, n_sPar, n_sParFG, n_sParGF, n_sParFF, n_sP3, n_sP4, n_eTupR, n_eLstR, n_eRevT, q_revT, n_sAsg, n_gTn_t, n_gTn_k, n_gsCons, n_gsNil, n_eLC, n_iSeq, n_seq_s, n_seq_l, n_seq_t, n_seq_k,
 rq1_e, rq2_e, n_iRng1m, n_iRng2m, n_eSl, n_oNone, n_oSome, n_eMeth, n_eRev, apQ_e, n_sAppend, n_sAug, n_fnM, n_ret, n_ask, n_dTuple, cif_t, cif_f, isB_bl, isI_int, optP_s, hasT,
 getS, setS, frzS, startE, slK, wipeE, put0, put1, put2, put3, q_add_i, q_add_s, q_add_t, q_add_l, q_sub, q_mul_i, q_mul_s, q_mod, q_neg, q_lt, q_le, q_gt, q_ge, q_eq_i, q_ne_i, q_eq_s, q_ne_s, q_is_bb, q_is_bn, q_is_in, q_is_sn, q_is_tn, q_is_nn, q_isn_bb, q_isn_bn, q_isn_in, q_isn_sn, q_isn_tn, q_isn_nn,
 q_it_l, q_it_t, q_it_k, q_it_s, at0, at1, at2, at3, atm1_1, atm1_2, atm1_a, q_len_s, q_len_l, q_len_t, q_isi, q_int, q_str, ty_int, ty_str, ty_bl, ty_lst, ty_tup, ty_kt, ty_non, isiT, q_sl_s, q_sl_t, q_sl_l,
 n_iZipU, n_iEnU, eqU_l, zqU_ll, zqU_lt, zqU_ls, eqU_t, zqU_tl, zqU_tt, zqU_ts, eqU_s, zqU_sl, zqU_st, zqU_ss, eqU_k,
 List.map_cons, List.map_nil, List.length_cons, List.length_nil, List.cons_append, List.nil_append, List.append_nil, List.replicate_zero, List.replicate_succ, Nat.reduceAdd, Nat.reduceSub, Nat.reduceEqDiff, Nat.reduceLeDiff, Int.reduceAdd, Int.reduceSub, Int.reduceMul, Int.reduceMod, Int.reduceNeg, Int.reduceLT, Int.reduceLE, Int.reduceBEq, decide_true, decide_false, Bool.not_true, Bool.not_false, true_and, and_true, Nat.zero_add]
  refine sp_whole_in (by omega) (by omega) fun v h1 h2 => ?_
  try simp only [n_eVar, n_eVarB, varQ_fz, varB_fz, varB_ow, n_eC, n_eCall, n_aCons, n_aNil, n_eBin, n_eUn, n_eTup, n_eLst, n_eIf, n_eAnd, n_eOr, n_eNot, n_eChain, n_tVal, n_tNot, n_tAnd, n_tOr, n_tTrue,
 n_sSeq, n_sIf, n_sNil, n_sRet, n_sExpr, n_sBreak, n_sCont, n_sSet, n_sSetO, n_sSetZ, n_sFrz, n_sFor, n_gN, pq2_e, n_sPar, n_sParFG, n_sParGF, n_sParFF, n_sP3, n_sP4, n_eTupR, n_eLstR, n_eRevT, q_revT, n_sAsg, n_gTn_t, n_gTn_k, n_gsCons, n_gsNil, n_eLC, n_iSeq, n_seq_s, n_seq_l, n_seq_t, n_seq_k,
 rq1_e, rq2_e, n_iRng1m, n_iRng2m, n_eSl, n_oNone, n_oSome, n_eMeth, n_eRev, apQ_e, n_sAppend, n_sAug, n_fnM, n_ret, n_ask, n_dTuple, cif_t, cif_f, isB_bl, isI_int, optP_s, hasT,
 getS, setS, frzS, startE, slK, wipeE, put0, put1, put2, put3, q_add_i, q_add_s, q_add_t, q_add_l, q_sub, q_mul_i, q_mul_s, q_mod, q_neg, q_lt, q_le, q_gt, q_ge, q_eq_i, q_ne_i, q_eq_s, q_ne_s, q_is_bb, q_is_bn, q_is_in, q_is_sn, q_is_tn, q_is_nn, q_isn_bb, q_isn_bn, q_isn_in, q_isn_sn, q_isn_tn, q_isn_nn,
 q_it_l, q_it_t, q_it_k, q_it_s, at0, at1, at2, at3, atm1_1, atm1_2, atm1_a, q_len_s, q_len_l, q_len_t, q_isi, q_int, q_str, ty_int, ty_str, ty_bl, ty_lst, ty_tup, ty_kt, ty_non, isiT, q_sl_s, q_sl_t, q_sl_l,
 n_iZipU, n_iEnU, eqU_l, zqU_ll, zqU_lt, zqU_ls, eqU_t, zqU_tl, zqU_tt, zqU_ts, eqU_s, zqU_sl, zqU_st, zqU_ss, eqU_k,
 List.map_cons, List.map_nil, List.length_cons, List.length_nil, List.cons_append, List.nil_append, List.append_nil, List.replicate_zero, List.replicate_succ, Nat.reduceAdd, Nat.reduceSub, Nat.reduceEqDiff, Nat.reduceLeDiff, Int.reduceAdd, Int.reduceSub, Int.reduceMul, Int.reduceMod, Int.reduceNeg, Int.reduceLT, Int.reduceLE, Int.reduceBEq, decide_true, decide_false, Bool.not_true, Bool.not_false, true_and, and_true, Nat.zero_add]
  refine sp_whole_in (by omega) (by omega) fun w h3 h4 => ⟨(show 2 ≤ lim by decide), h v w h1 h2 h3 h4⟩
theorem eqv_pr {x m : Int × Int} : eqv (prD2 x) (prD2 m) = decide (x = m) := by
  obtain ⟨a, b⟩ := x
  obtain ⟨c, d⟩ := m
  rw [Bool.eq_iff_iff, decide_eq_true_eq]
  simp [eqv, eqvL]
theorem idxL_ex {d : D} : ∀ {ds : List D}, (∃ z ∈ ds, eqv z d = true) → ∃ j, idxL d ds = some j
  | [], h => by obtain ⟨z, hz, _⟩ := h; cases hz
  | x :: r, h => by
    by_cases e : eqv x d = true
    · exact ⟨0, by unfold idxL; rw [if_pos e]⟩
    · obtain ⟨z, hz, hz2⟩ := h
      rcases List.mem_cons.mp hz with y | y
      · subst y; exact absurd hz2 e
      · obtain ⟨j, hj⟩ := idxL_ex ⟨z, y, hz2⟩
        exact ⟨j + 1, by unfold idxL; rw [if_neg e, hj]; rfl⟩
theorem okD_prs {l : List (Int × Int)} : okD deep (.lst (l.map prD2)) = true := by
  show okD (59 + 1) _ = true
  rw [okD, List.all_map]
  exact List.all_eq_true.mpr fun x _ => by simp [prD2, okD, okD_int]
theorem sp_farthest {s : List Nat} (hl : s.length ≤ 120) (hs : s.all isPc = true) (h : ∀ j : Nat, j < (trailE e0 s).length → (∀ i x m, ((trailE e0 s).map sqE)[i]? = some x → ((trailE e0 s).map sqE)[j]? = some m → posS (m.1 - x.1) (m.2 - x.2) ∧ (i < j → x ≠ m)) → P (.int j)) : m_farthest_place [.str s] P := by
  simp only [m_farthest_place, S_farthest_place, n_eVar, n_eVarB, varQ_fz, varB_fz, varB_ow, n_eC, n_eCall, n_aCons, n_aNil, n_eBin, n_eUn, n_eTup, n_eLst, n_eIf, n_eAnd, n_eOr, n_eNot, n_eChain, n_tVal, n_tNot, n_tAnd, n_tOr, n_tTrue,
 n_sSeq, n_sIf, n_sNil, n_sRet, n_sExpr, n_sBreak, n_sCont, n_sSet, n_sSetO, n_sSetZ, n_sFrz, n_sFor, n_gN, pq2_e, n_sPar, n_sParFG, n_sParGF, n_sParFF, n_sP3, n_sP4, n_eTupR, n_eLstR, n_eRevT, q_revT, n_sAsg, n_gTn_t, n_gTn_k, n_gsCons, n_gsNil, n_eLC, n_iSeq, n_seq_s, n_seq_l, n_seq_t, n_seq_k,
 rq1_e, rq2_e, n_iRng1m, n_iRng2m, n_eSl, n_oNone, n_oSome, n_eMeth, n_eRev, apQ_e, n_sAppend, n_sAug, n_fnM, n_ret, n_ask, n_dTuple, cif_t, cif_f, isB_bl, isI_int, optP_s, hasT,
 getS, setS, frzS, startE, slK, wipeE, put0, put1, put2, put3, q_add_i, q_add_s, q_add_t, q_add_l, q_sub, q_mul_i, q_mul_s, q_mod, q_neg, q_lt, q_le, q_gt, q_ge, q_eq_i, q_ne_i, q_eq_s, q_ne_s, q_is_bb, q_is_bn, q_is_in, q_is_sn, q_is_tn, q_is_nn, q_isn_bb, q_isn_bn, q_isn_in, q_isn_sn, q_isn_tn, q_isn_nn,
 q_it_l, q_it_t, q_it_k, q_it_s, at0, at1, at2, at3, atm1_1, atm1_2, atm1_a, q_len_s, q_len_l, q_len_t, q_isi, q_int, q_str, ty_int, ty_str, ty_bl, ty_lst, ty_tup, ty_kt, ty_non, isiT, q_sl_s, q_sl_t, q_sl_l,
 n_iZipU, n_iEnU, eqU_l, zqU_ll, zqU_lt, zqU_ls, eqU_t, zqU_tl, zqU_tt, zqU_ts, eqU_s, zqU_sl, zqU_st, zqU_ss, eqU_k,
 List.map_cons, List.map_nil, List.length_cons, List.length_nil, List.cons_append, List.nil_append, List.append_nil, List.replicate_zero, List.replicate_succ, Nat.reduceAdd, Nat.reduceSub, Nat.reduceEqDiff, Nat.reduceLeDiff, Int.reduceAdd, Int.reduceSub, Int.reduceMul, Int.reduceMod, Int.reduceNeg, Int.reduceLT, Int.reduceLE, Int.reduceBEq, decide_true, decide_false, Bool.not_true, Bool.not_false, true_and, and_true, Nat.zero_add]
  refine sp_need_eighths hl hs (sp_along_in hs (by omega) ?_)
  have ln : ((trailE e0 s).map tD).length ≤ lim := by rw [List.length_map, trail_len]; simp only [lim]; omega
  try simp only [n_eVar, n_eVarB, varQ_fz, varB_fz, varB_ow, n_eC, n_eCall, n_aCons, n_aNil, n_eBin, n_eUn, n_eTup, n_eLst, n_eIf, n_eAnd, n_eOr, n_eNot, n_eChain, n_tVal, n_tNot, n_tAnd, n_tOr, n_tTrue,
 n_sSeq, n_sIf, n_sNil, n_sRet, n_sExpr, n_sBreak, n_sCont, n_sSet, n_sSetO, n_sSetZ, n_sFrz, n_sFor, n_gN, pq2_e, n_sPar, n_sParFG, n_sParGF, n_sParFF, n_sP3, n_sP4, n_eTupR, n_eLstR, n_eRevT, q_revT, n_sAsg, n_gTn_t, n_gTn_k, n_gsCons, n_gsNil, n_eLC, n_iSeq, n_seq_s, n_seq_l, n_seq_t, n_seq_k,
 rq1_e, rq2_e, n_iRng1m, n_iRng2m, n_eSl, n_oNone, n_oSome, n_eMeth, n_eRev, apQ_e, n_sAppend, n_sAug, n_fnM, n_ret, n_ask, n_dTuple, cif_t, cif_f, isB_bl, isI_int, optP_s, hasT,
 getS, setS, frzS, startE, slK, wipeE, put0, put1, put2, put3, q_add_i, q_add_s, q_add_t, q_add_l, q_sub, q_mul_i, q_mul_s, q_mod, q_neg, q_lt, q_le, q_gt, q_ge, q_eq_i, q_ne_i, q_eq_s, q_ne_s, q_is_bb, q_is_bn, q_is_in, q_is_sn, q_is_tn, q_is_nn, q_isn_bb, q_isn_bn, q_isn_in, q_isn_sn, q_isn_tn, q_isn_nn,
 q_it_l, q_it_t, q_it_k, q_it_s, at0, at1, at2, at3, atm1_1, atm1_2, atm1_a, q_len_s, q_len_l, q_len_t, q_isi, q_int, q_str, ty_int, ty_str, ty_bl, ty_lst, ty_tup, ty_kt, ty_non, isiT, q_sl_s, q_sl_t, q_sl_l,
 n_iZipU, n_iEnU, eqU_l, zqU_ll, zqU_lt, zqU_ls, eqU_t, zqU_tl, zqU_tt, zqU_ts, eqU_s, zqU_sl, zqU_st, zqU_ss, eqU_k,
 List.map_cons, List.map_nil, List.length_cons, List.length_nil, List.cons_append, List.nil_append, List.append_nil, List.replicate_zero, List.replicate_succ, Nat.reduceAdd, Nat.reduceSub, Nat.reduceEqDiff, Nat.reduceLeDiff, Int.reduceAdd, Int.reduceSub, Int.reduceMul, Int.reduceMod, Int.reduceNeg, Int.reduceLT, Int.reduceLE, Int.reduceBEq, decide_true, decide_false, Bool.not_true, Bool.not_false, true_and, and_true, Nat.zero_add]
  refine ⟨ln, ?_⟩
  refine lc_eachm tD (fun e => prD2 (sqE e)) _ (fun e he K hK => ?_) ?_
  · simp only [n_eVar, n_eVarB, varQ_fz, varB_fz, varB_ow, n_eC, n_eCall, n_aCons, n_aNil, n_eBin, n_eUn, n_eTup, n_eLst, n_eIf, n_eAnd, n_eOr, n_eNot, n_eChain, n_tVal, n_tNot, n_tAnd, n_tOr, n_tTrue,
 n_sSeq, n_sIf, n_sNil, n_sRet, n_sExpr, n_sBreak, n_sCont, n_sSet, n_sSetO, n_sSetZ, n_sFrz, n_sFor, n_gN, pq2_e, n_sPar, n_sParFG, n_sParGF, n_sParFF, n_sP3, n_sP4, n_eTupR, n_eLstR, n_eRevT, q_revT, n_sAsg, n_gTn_t, n_gTn_k, n_gsCons, n_gsNil, n_eLC, n_iSeq, n_seq_s, n_seq_l, n_seq_t, n_seq_k,
 rq1_e, rq2_e, n_iRng1m, n_iRng2m, n_eSl, n_oNone, n_oSome, n_eMeth, n_eRev, apQ_e, n_sAppend, n_sAug, n_fnM, n_ret, n_ask, n_dTuple, cif_t, cif_f, isB_bl, isI_int, optP_s, hasT,
 getS, setS, frzS, startE, slK, wipeE, put0, put1, put2, put3, q_add_i, q_add_s, q_add_t, q_add_l, q_sub, q_mul_i, q_mul_s, q_mod, q_neg, q_lt, q_le, q_gt, q_ge, q_eq_i, q_ne_i, q_eq_s, q_ne_s, q_is_bb, q_is_bn, q_is_in, q_is_sn, q_is_tn, q_is_nn, q_isn_bb, q_isn_bn, q_isn_in, q_isn_sn, q_isn_tn, q_isn_nn,
 q_it_l, q_it_t, q_it_k, q_it_s, at0, at1, at2, at3, atm1_1, atm1_2, atm1_a, q_len_s, q_len_l, q_len_t, q_isi, q_int, q_str, ty_int, ty_str, ty_bl, ty_lst, ty_tup, ty_kt, ty_non, isiT, q_sl_s, q_sl_t, q_sl_l,
 n_iZipU, n_iEnU, eqU_l, zqU_ll, zqU_lt, zqU_ls, eqU_t, zqU_tl, zqU_tt, zqU_ts, eqU_s, zqU_sl, zqU_st, zqU_ss, eqU_k,
 List.map_cons, List.map_nil, List.length_cons, List.length_nil, List.cons_append, List.nil_append, List.append_nil, List.replicate_zero, List.replicate_succ, Nat.reduceAdd, Nat.reduceSub, Nat.reduceEqDiff, Nat.reduceLeDiff, Int.reduceAdd, Int.reduceSub, Int.reduceMul, Int.reduceMod, Int.reduceNeg, Int.reduceLT, Int.reduceLE, Int.reduceBEq, decide_true, decide_false, Bool.not_true, Bool.not_false, true_and, and_true, Nat.zero_add]
    exact sp_square_in (bE_all hl he) hK
  try simp only [n_eVar, n_eVarB, varQ_fz, varB_fz, varB_ow, n_eC, n_eCall, n_aCons, n_aNil, n_eBin, n_eUn, n_eTup, n_eLst, n_eIf, n_eAnd, n_eOr, n_eNot, n_eChain, n_tVal, n_tNot, n_tAnd, n_tOr, n_tTrue,
 n_sSeq, n_sIf, n_sNil, n_sRet, n_sExpr, n_sBreak, n_sCont, n_sSet, n_sSetO, n_sSetZ, n_sFrz, n_sFor, n_gN, pq2_e, n_sPar, n_sParFG, n_sParGF, n_sParFF, n_sP3, n_sP4, n_eTupR, n_eLstR, n_eRevT, q_revT, n_sAsg, n_gTn_t, n_gTn_k, n_gsCons, n_gsNil, n_eLC, n_iSeq, n_seq_s, n_seq_l, n_seq_t, n_seq_k,
 rq1_e, rq2_e, n_iRng1m, n_iRng2m, n_eSl, n_oNone, n_oSome, n_eMeth, n_eRev, apQ_e, n_sAppend, n_sAug, n_fnM, n_ret, n_ask, n_dTuple, cif_t, cif_f, isB_bl, isI_int, optP_s, hasT,
 getS, setS, frzS, startE, slK, wipeE, put0, put1, put2, put3, q_add_i, q_add_s, q_add_t, q_add_l, q_sub, q_mul_i, q_mul_s, q_mod, q_neg, q_lt, q_le, q_gt, q_ge, q_eq_i, q_ne_i, q_eq_s, q_ne_s, q_is_bb, q_is_bn, q_is_in, q_is_sn, q_is_tn, q_is_nn, q_isn_bb, q_isn_bn, q_isn_in, q_isn_sn, q_isn_tn, q_isn_nn,
 q_it_l, q_it_t, q_it_k, q_it_s, at0, at1, at2, at3, atm1_1, atm1_2, atm1_a, q_len_s, q_len_l, q_len_t, q_isi, q_int, q_str, ty_int, ty_str, ty_bl, ty_lst, ty_tup, ty_kt, ty_non, isiT, q_sl_s, q_sl_t, q_sl_l,
 n_iZipU, n_iEnU, eqU_l, zqU_ll, zqU_lt, zqU_ls, eqU_t, zqU_tl, zqU_tt, zqU_ts, eqU_s, zqU_sl, zqU_st, zqU_ss, eqU_k,
 List.map_cons, List.map_nil, List.length_cons, List.length_nil, List.cons_append, List.nil_append, List.append_nil, List.replicate_zero, List.replicate_succ, Nat.reduceAdd, Nat.reduceSub, Nat.reduceEqDiff, Nat.reduceLeDiff, Int.reduceAdd, Int.reduceSub, Int.reduceMul, Int.reduceMod, Int.reduceNeg, Int.reduceLT, Int.reduceLE, Int.reduceBEq, decide_true, decide_false, Bool.not_true, Bool.not_false, true_and, and_true, Nat.zero_add]
  have ne : (trailE e0 s).map sqE ≠ [] := by
    intro z
    have := congrArg List.length z
    rw [List.length_map, trail_len, List.length_nil] at this
    omega
  have b1 : ∀ x ∈ (trailE e0 s).map sqE, -1000000000 ≤ x.1 ∧ x.1 ≤ 1000000000 ∧ -1000000000 ≤ x.2 ∧ x.2 ≤ 1000000000 := fun x hx => by
    obtain ⟨e, he, rfl⟩ := List.mem_map.mp hx
    have := sq_bE (bE_all hl he)
    omega
  rw [show List.map (fun e => prD2 (sqE e)) (trailE e0 s) = ((trailE e0 s).map sqE).map prD2 by rw [List.map_map]; rfl]
  refine sp_greatest_in ne b1 fun m hm hm2 => ?_
  refine ⟨⟨by simp [prD2, okD, okD_int, deep], okD_prs⟩, ?_⟩
  obtain ⟨j, hj⟩ := idxL_ex (d := prD2 m) (ds := ((trailE e0 s).map sqE).map prD2) ⟨prD2 m, List.mem_map.mpr ⟨m, hm, rfl⟩, by rw [eqv_pr]; exact decide_eq_true rfl⟩
  rw [hj]
  obtain ⟨z, g1, g2, g3⟩ := idxL_some hj
  rw [List.getElem?_map] at g1
  obtain ⟨y, hy, rfl⟩ := Option.map_eq_some_iff.mp g1
  rw [eqv_pr] at g2
  have := of_decide_eq_true g2
  subst this
  have jl := (List.getElem?_eq_some_iff.mp hy).1
  refine h j (by rwa [List.length_map] at jl) fun i x m hx hm => ?_
  rw [hy] at hm
  cases hm
  refine ⟨hm2 x (List.mem_of_getElem? hx), fun hij e => ?_⟩
  have := g3 i (prD2 x) hij (by rw [List.getElem?_map, hx]; rfl)
  rw [eqv_pr, e] at this
  simp at this
end L37
set_option Elab.async false
set_option linter.all false
set_option maxRecDepth 100000
set_option maxHeartbeats 2000000
namespace L37
open G
variable {P : D → Prop}
theorem whole_uniq {a b v w : Int} (h1 : posS (a - 2 * v) b) (h2 : ¬ posS (a - 2 * v - 2) b) (h3 : posS (a - 2 * w) b) (h4 : ¬ posS (a - 2 * w - 2) b) : v = w := by
  have key : ∀ {x y : Int}, posS (a - 2 * y) b → ¬ posS (a - 2 * x - 2) b → y ≤ x := fun {x y} p q => by
    refine Classical.byContradiction fun c => q ?_
    have := pos_add p (pos_nn (a := 2 * y - 2 * x - 2) (b := 0) (by omega) (by omega))
    rwa [show a - 2 * y + (2 * y - 2 * x - 2) = a - 2 * x - 2 by omega, Int.add_zero] at this
  exact Int.le_antisymm (key h1 h4) (key h3 h2)
theorem sg_lo {a b : Int} (h : posS a b) : decide (sg a b < 0) = false := decide_eq_false (by have := sg_pos.mpr h; omega)
theorem sg_bnd (a b : Int) : small (sg a b) := by
  unfold small sg
  split
  · omega
  · split <;> omega
theorem pr9 {x y : Int} (hx1 : -1000000000 ≤ x) (hx2 : x ≤ 1000000000) (hy1 : -1000000000 ≤ y) (hy2 : y ≤ 1000000000) : -1000000000000000000 ≤ x * y ∧ x * y ≤ 1000000000000000000 := by
  have a := sq_bnd hx1 hx2
  have b := sq_bnd hy1 hy2
  have c := sq_nn (x + y)
  have d := sq_nn (x - y)
  have e1 : (x + y) * (x + y) = x * x + 2 * (x * y) + y * y := by grind
  have e2 : (x - y) * (x - y) = x * x - 2 * (x * y) + y * y := by grind
  omega
abbrev Ik (ns : List Int) (env : Env) : Prop := ∃ x2 x3 x4 x5 x6 x7 x8 x9 x10 x11 x12 x13 x14 x15 x16 x17 x18 x19 x20 x21 x22 x23, env = [.fz (.scr ns), .fz .cup, x2, x3, x4, x5, x6, x7, x8, x9, x10, x11, x12, x13, x14, x15, x16, x17, x18, x19, x20, x21, x22, x23]
variable {ns : List Int} {E : DE}
theorem turnA {d : D} {env : Env} {K : Env → Prop} (he : Ik ns env) (hK : ∀ e, Ik ns e → K e) : gN 2 d env fun env' => B7_law { nx := K, ct := K, bk := E.nx, rt := E.rt } env' := by
  obtain ⟨x2, x3, x4, x5, x6, x7, x8, x9, x10, x11, x12, x13, x14, x15, x16, x17, x18, x19, x20, x21, x22, x23, rfl⟩ := he
  simp only [B7_law, n_eVar, n_eVarB, varQ_fz, varB_fz, varB_ow, n_eC, n_eCall, n_aCons, n_aNil, n_eBin, n_eUn, n_eTup, n_eLst, n_eIf, n_eAnd, n_eOr, n_eNot, n_eChain, n_tVal, n_tNot, n_tAnd, n_tOr, n_tTrue,
 n_sSeq, n_sIf, n_sNil, n_sRet, n_sExpr, n_sBreak, n_sCont, n_sSet, n_sSetO, n_sSetZ, n_sFrz, n_sFor, n_gN, pq2_e, n_sPar, n_sParFG, n_sParGF, n_sParFF, n_sP3, n_sP4, n_eTupR, n_eLstR, n_eRevT, q_revT, n_sAsg, n_gTn_t, n_gTn_k, n_gsCons, n_gsNil, n_eLC, n_iSeq, n_seq_s, n_seq_l, n_seq_t, n_seq_k,
 rq1_e, rq2_e, n_iRng1m, n_iRng2m, n_eSl, n_oNone, n_oSome, n_eMeth, n_eRev, apQ_e, n_sAppend, n_sAug, n_fnM, n_ret, n_ask, n_dTuple, cif_t, cif_f, isB_bl, isI_int, optP_s, hasT,
 getS, setS, frzS, startE, slK, wipeE, put0, put1, put2, put3, q_add_i, q_add_s, q_add_t, q_add_l, q_sub, q_mul_i, q_mul_s, q_mod, q_neg, q_lt, q_le, q_gt, q_ge, q_eq_i, q_ne_i, q_eq_s, q_ne_s, q_is_bb, q_is_bn, q_is_in, q_is_sn, q_is_tn, q_is_nn, q_isn_bb, q_isn_bn, q_isn_in, q_isn_sn, q_isn_tn, q_isn_nn,
 q_it_l, q_it_t, q_it_k, q_it_s, at0, at1, at2, at3, atm1_1, atm1_2, atm1_a, q_len_s, q_len_l, q_len_t, q_isi, q_int, q_str, ty_int, ty_str, ty_bl, ty_lst, ty_tup, ty_kt, ty_non, isiT, q_sl_s, q_sl_t, q_sl_l,
 n_iZipU, n_iEnU, eqU_l, zqU_ll, zqU_lt, zqU_ls, eqU_t, zqU_tl, zqU_tt, zqU_ts, eqU_s, zqU_sl, zqU_st, zqU_ss, eqU_k,
 List.map_cons, List.map_nil, List.length_cons, List.length_nil, List.cons_append, List.nil_append, List.append_nil, List.replicate_zero, List.replicate_succ, Nat.reduceAdd, Nat.reduceSub, Nat.reduceEqDiff, Nat.reduceLeDiff, Int.reduceAdd, Int.reduceSub, Int.reduceMul, Int.reduceMod, Int.reduceNeg, Int.reduceLT, Int.reduceLE, Int.reduceBEq, decide_true, decide_false, Bool.not_true, Bool.not_false, true_and, and_true, Nat.zero_add]
  refine sp_law_number fun a b a1 a2 b1 b2 => sp_law_number fun c d c1 c2 d1 d2 => ?_
  simp only [B6_law, n_eVar, n_eVarB, varQ_fz, varB_fz, varB_ow, n_eC, n_eCall, n_aCons, n_aNil, n_eBin, n_eUn, n_eTup, n_eLst, n_eIf, n_eAnd, n_eOr, n_eNot, n_eChain, n_tVal, n_tNot, n_tAnd, n_tOr, n_tTrue,
 n_sSeq, n_sIf, n_sNil, n_sRet, n_sExpr, n_sBreak, n_sCont, n_sSet, n_sSetO, n_sSetZ, n_sFrz, n_sFor, n_gN, pq2_e, n_sPar, n_sParFG, n_sParGF, n_sParFF, n_sP3, n_sP4, n_eTupR, n_eLstR, n_eRevT, q_revT, n_sAsg, n_gTn_t, n_gTn_k, n_gsCons, n_gsNil, n_eLC, n_iSeq, n_seq_s, n_seq_l, n_seq_t, n_seq_k,
 rq1_e, rq2_e, n_iRng1m, n_iRng2m, n_eSl, n_oNone, n_oSome, n_eMeth, n_eRev, apQ_e, n_sAppend, n_sAug, n_fnM, n_ret, n_ask, n_dTuple, cif_t, cif_f, isB_bl, isI_int, optP_s, hasT,
 getS, setS, frzS, startE, slK, wipeE, put0, put1, put2, put3, q_add_i, q_add_s, q_add_t, q_add_l, q_sub, q_mul_i, q_mul_s, q_mod, q_neg, q_lt, q_le, q_gt, q_ge, q_eq_i, q_ne_i, q_eq_s, q_ne_s, q_is_bb, q_is_bn, q_is_in, q_is_sn, q_is_tn, q_is_nn, q_isn_bb, q_isn_bn, q_isn_in, q_isn_sn, q_isn_tn, q_isn_nn,
 q_it_l, q_it_t, q_it_k, q_it_s, at0, at1, at2, at3, atm1_1, atm1_2, atm1_a, q_len_s, q_len_l, q_len_t, q_isi, q_int, q_str, ty_int, ty_str, ty_bl, ty_lst, ty_tup, ty_kt, ty_non, isiT, q_sl_s, q_sl_t, q_sl_l,
 n_iZipU, n_iEnU, eqU_l, zqU_ll, zqU_lt, zqU_ls, eqU_t, zqU_tl, zqU_tt, zqU_ts, eqU_s, zqU_sl, zqU_st, zqU_ss, eqU_k,
 List.map_cons, List.map_nil, List.length_cons, List.length_nil, List.cons_append, List.nil_append, List.append_nil, List.replicate_zero, List.replicate_succ, Nat.reduceAdd, Nat.reduceSub, Nat.reduceEqDiff, Nat.reduceLeDiff, Int.reduceAdd, Int.reduceSub, Int.reduceMul, Int.reduceMod, Int.reduceNeg, Int.reduceLT, Int.reduceLE, Int.reduceBEq, decide_true, decide_false, Bool.not_true, Bool.not_false, true_and, and_true, Nat.zero_add]
  refine sp_sign_of a1 a2 b1 b2 (sp_is_less a1 a2 b1 b2 c1 c2 d1 d2 ⟨(show 2 ≤ lim by decide), sp_law_sign (by omega) (by omega) (sp_law_less (by omega) (by omega) ⟨(show 2 ≤ lim by decide), ?_⟩)⟩)
  refine sp_law_same (by simp [smD, smD_int, smD_bl, lim]) ?_
  try simp only [n_eVar, n_eVarB, varQ_fz, varB_fz, varB_ow, n_eC, n_eCall, n_aCons, n_aNil, n_eBin, n_eUn, n_eTup, n_eLst, n_eIf, n_eAnd, n_eOr, n_eNot, n_eChain, n_tVal, n_tNot, n_tAnd, n_tOr, n_tTrue,
 n_sSeq, n_sIf, n_sNil, n_sRet, n_sExpr, n_sBreak, n_sCont, n_sSet, n_sSetO, n_sSetZ, n_sFrz, n_sFor, n_gN, pq2_e, n_sPar, n_sParFG, n_sParGF, n_sParFF, n_sP3, n_sP4, n_eTupR, n_eLstR, n_eRevT, q_revT, n_sAsg, n_gTn_t, n_gTn_k, n_gsCons, n_gsNil, n_eLC, n_iSeq, n_seq_s, n_seq_l, n_seq_t, n_seq_k,
 rq1_e, rq2_e, n_iRng1m, n_iRng2m, n_eSl, n_oNone, n_oSome, n_eMeth, n_eRev, apQ_e, n_sAppend, n_sAug, n_fnM, n_ret, n_ask, n_dTuple, cif_t, cif_f, isB_bl, isI_int, optP_s, hasT,
 getS, setS, frzS, startE, slK, wipeE, put0, put1, put2, put3, q_add_i, q_add_s, q_add_t, q_add_l, q_sub, q_mul_i, q_mul_s, q_mod, q_neg, q_lt, q_le, q_gt, q_ge, q_eq_i, q_ne_i, q_eq_s, q_ne_s, q_is_bb, q_is_bn, q_is_in, q_is_sn, q_is_tn, q_is_nn, q_isn_bb, q_isn_bn, q_isn_in, q_isn_sn, q_isn_tn, q_isn_nn,
 q_it_l, q_it_t, q_it_k, q_it_s, at0, at1, at2, at3, atm1_1, atm1_2, atm1_a, q_len_s, q_len_l, q_len_t, q_isi, q_int, q_str, ty_int, ty_str, ty_bl, ty_lst, ty_tup, ty_kt, ty_non, isiT, q_sl_s, q_sl_t, q_sl_l,
 n_iZipU, n_iEnU, eqU_l, zqU_ll, zqU_lt, zqU_ls, eqU_t, zqU_tl, zqU_tt, zqU_ts, eqU_s, zqU_sl, zqU_st, zqU_ss, eqU_k,
 List.map_cons, List.map_nil, List.length_cons, List.length_nil, List.cons_append, List.nil_append, List.append_nil, List.replicate_zero, List.replicate_succ, Nat.reduceAdd, Nat.reduceSub, Nat.reduceEqDiff, Nat.reduceLeDiff, Int.reduceAdd, Int.reduceSub, Int.reduceMul, Int.reduceMod, Int.reduceNeg, Int.reduceLT, Int.reduceLE, Int.reduceBEq, decide_true, decide_false, Bool.not_true, Bool.not_false, true_and, and_true, Nat.zero_add]
  simp only [B5_law, n_eVar, n_eVarB, varQ_fz, varB_fz, varB_ow, n_eC, n_eCall, n_aCons, n_aNil, n_eBin, n_eUn, n_eTup, n_eLst, n_eIf, n_eAnd, n_eOr, n_eNot, n_eChain, n_tVal, n_tNot, n_tAnd, n_tOr, n_tTrue,
 n_sSeq, n_sIf, n_sNil, n_sRet, n_sExpr, n_sBreak, n_sCont, n_sSet, n_sSetO, n_sSetZ, n_sFrz, n_sFor, n_gN, pq2_e, n_sPar, n_sParFG, n_sParGF, n_sParFF, n_sP3, n_sP4, n_eTupR, n_eLstR, n_eRevT, q_revT, n_sAsg, n_gTn_t, n_gTn_k, n_gsCons, n_gsNil, n_eLC, n_iSeq, n_seq_s, n_seq_l, n_seq_t, n_seq_k,
 rq1_e, rq2_e, n_iRng1m, n_iRng2m, n_eSl, n_oNone, n_oSome, n_eMeth, n_eRev, apQ_e, n_sAppend, n_sAug, n_fnM, n_ret, n_ask, n_dTuple, cif_t, cif_f, isB_bl, isI_int, optP_s, hasT,
 getS, setS, frzS, startE, slK, wipeE, put0, put1, put2, put3, q_add_i, q_add_s, q_add_t, q_add_l, q_sub, q_mul_i, q_mul_s, q_mod, q_neg, q_lt, q_le, q_gt, q_ge, q_eq_i, q_ne_i, q_eq_s, q_ne_s, q_is_bb, q_is_bn, q_is_in, q_is_sn, q_is_tn, q_is_nn, q_isn_bb, q_isn_bn, q_isn_in, q_isn_sn, q_isn_tn, q_isn_nn,
 q_it_l, q_it_t, q_it_k, q_it_s, at0, at1, at2, at3, atm1_1, atm1_2, atm1_a, q_len_s, q_len_l, q_len_t, q_isi, q_int, q_str, ty_int, ty_str, ty_bl, ty_lst, ty_tup, ty_kt, ty_non, isiT, q_sl_s, q_sl_t, q_sl_l,
 n_iZipU, n_iEnU, eqU_l, zqU_ll, zqU_lt, zqU_ls, eqU_t, zqU_tl, zqU_tt, zqU_ts, eqU_s, zqU_sl, zqU_st, zqU_ss, eqU_k,
 List.map_cons, List.map_nil, List.length_cons, List.length_nil, List.cons_append, List.nil_append, List.append_nil, List.replicate_zero, List.replicate_succ, Nat.reduceAdd, Nat.reduceSub, Nat.reduceEqDiff, Nat.reduceLeDiff, Int.reduceAdd, Int.reduceSub, Int.reduceMul, Int.reduceMod, Int.reduceNeg, Int.reduceLT, Int.reduceLE, Int.reduceBEq, decide_true, decide_false, Bool.not_true, Bool.not_false, true_and, and_true, Nat.zero_add]
  refine sp_whole_of a1 a2 b1 b2 fun w w1 w2 => ?_
  simp only [B4_law, n_eVar, n_eVarB, varQ_fz, varB_fz, varB_ow, n_eC, n_eCall, n_aCons, n_aNil, n_eBin, n_eUn, n_eTup, n_eLst, n_eIf, n_eAnd, n_eOr, n_eNot, n_eChain, n_tVal, n_tNot, n_tAnd, n_tOr, n_tTrue,
 n_sSeq, n_sIf, n_sNil, n_sRet, n_sExpr, n_sBreak, n_sCont, n_sSet, n_sSetO, n_sSetZ, n_sFrz, n_sFor, n_gN, pq2_e, n_sPar, n_sParFG, n_sParGF, n_sParFF, n_sP3, n_sP4, n_eTupR, n_eLstR, n_eRevT, q_revT, n_sAsg, n_gTn_t, n_gTn_k, n_gsCons, n_gsNil, n_eLC, n_iSeq, n_seq_s, n_seq_l, n_seq_t, n_seq_k,
 rq1_e, rq2_e, n_iRng1m, n_iRng2m, n_eSl, n_oNone, n_oSome, n_eMeth, n_eRev, apQ_e, n_sAppend, n_sAug, n_fnM, n_ret, n_ask, n_dTuple, cif_t, cif_f, isB_bl, isI_int, optP_s, hasT,
 getS, setS, frzS, startE, slK, wipeE, put0, put1, put2, put3, q_add_i, q_add_s, q_add_t, q_add_l, q_sub, q_mul_i, q_mul_s, q_mod, q_neg, q_lt, q_le, q_gt, q_ge, q_eq_i, q_ne_i, q_eq_s, q_ne_s, q_is_bb, q_is_bn, q_is_in, q_is_sn, q_is_tn, q_is_nn, q_isn_bb, q_isn_bn, q_isn_in, q_isn_sn, q_isn_tn, q_isn_nn,
 q_it_l, q_it_t, q_it_k, q_it_s, at0, at1, at2, at3, atm1_1, atm1_2, atm1_a, q_len_s, q_len_l, q_len_t, q_isi, q_int, q_str, ty_int, ty_str, ty_bl, ty_lst, ty_tup, ty_kt, ty_non, isiT, q_sl_s, q_sl_t, q_sl_l,
 n_iZipU, n_iEnU, eqU_l, zqU_ll, zqU_lt, zqU_ls, eqU_t, zqU_tl, zqU_tt, zqU_ts, eqU_s, zqU_sl, zqU_st, zqU_ss, eqU_k,
 List.map_cons, List.map_nil, List.length_cons, List.length_nil, List.cons_append, List.nil_append, List.append_nil, List.replicate_zero, List.replicate_succ, Nat.reduceAdd, Nat.reduceSub, Nat.reduceEqDiff, Nat.reduceLeDiff, Int.reduceAdd, Int.reduceSub, Int.reduceMul, Int.reduceMod, Int.reduceNeg, Int.reduceLT, Int.reduceLE, Int.reduceBEq, decide_true, decide_false, Bool.not_true, Bool.not_false, true_and, and_true, Nat.zero_add]
  try simp (decide := true) only [n_eVar, n_eVarB, varQ_fz, varB_fz, varB_ow, n_eC, n_eCall, n_aCons, n_aNil, n_eBin, n_eUn, n_eTup, n_eLst, n_eIf, n_eAnd, n_eOr, n_eNot, n_eChain, n_tVal, n_tNot, n_tAnd, n_tOr, n_tTrue,
 n_sSeq, n_sIf, n_sNil, n_sRet, n_sExpr, n_sBreak, n_sCont, n_sSet, n_sSetO, n_sSetZ, n_sFrz, n_sFor, n_gN, pq2_e, n_sPar, n_sParFG, n_sParGF, n_sParFF, n_sP3, n_sP4, n_eTupR, n_eLstR, n_eRevT, q_revT, n_sAsg, n_gTn_t, n_gTn_k, n_gsCons, n_gsNil, n_eLC, n_iSeq, n_seq_s, n_seq_l, n_seq_t, n_seq_k,
 rq1_e, rq2_e, n_iRng1m, n_iRng2m, n_eSl, n_oNone, n_oSome, n_eMeth, n_eRev, apQ_e, n_sAppend, n_sAug, n_fnM, n_ret, n_ask, n_dTuple, cif_t, cif_f, isB_bl, isI_int, optP_s, hasT,
 getS, setS, frzS, startE, slK, wipeE, put0, put1, put2, put3, q_add_i, q_add_s, q_add_t, q_add_l, q_sub, q_mul_i, q_mul_s, q_mod, q_neg, q_lt, q_le, q_gt, q_ge, q_eq_i, q_ne_i, q_eq_s, q_ne_s, q_is_bb, q_is_bn, q_is_in, q_is_sn, q_is_tn, q_is_nn, q_isn_bb, q_isn_bn, q_isn_in, q_isn_sn, q_isn_tn, q_isn_nn,
 q_it_l, q_it_t, q_it_k, q_it_s, at0, at1, at2, at3, atm1_1, atm1_2, atm1_a, q_len_s, q_len_l, q_len_t, q_isi, q_int, q_str, ty_int, ty_str, ty_bl, ty_lst, ty_tup, ty_kt, ty_non, isiT, q_sl_s, q_sl_t, q_sl_l,
 n_iZipU, n_iEnU, eqU_l, zqU_ll, zqU_lt, zqU_ls, eqU_t, zqU_tl, zqU_tt, zqU_ts, eqU_s, zqU_sl, zqU_st, zqU_ss, eqU_k,
 List.map_cons, List.map_nil, List.length_cons, List.length_nil, List.cons_append, List.nil_append, List.append_nil, List.replicate_zero, List.replicate_succ, Nat.reduceAdd, Nat.reduceSub, Nat.reduceEqDiff, Nat.reduceLeDiff, Int.reduceAdd, Int.reduceSub, Int.reduceMul, Int.reduceMod, Int.reduceNeg, Int.reduceLT, Int.reduceLE, Int.reduceBEq, decide_true, decide_false, Bool.not_true, Bool.not_false, true_and, and_true, Nat.zero_add]
  simp only [B3_law, nD, n_eVar, n_eVarB, varQ_fz, varB_fz, varB_ow, n_eC, n_eCall, n_aCons, n_aNil, n_eBin, n_eUn, n_eTup, n_eLst, n_eIf, n_eAnd, n_eOr, n_eNot, n_eChain, n_tVal, n_tNot, n_tAnd, n_tOr, n_tTrue,
 n_sSeq, n_sIf, n_sNil, n_sRet, n_sExpr, n_sBreak, n_sCont, n_sSet, n_sSetO, n_sSetZ, n_sFrz, n_sFor, n_gN, pq2_e, n_sPar, n_sParFG, n_sParGF, n_sParFF, n_sP3, n_sP4, n_eTupR, n_eLstR, n_eRevT, q_revT, n_sAsg, n_gTn_t, n_gTn_k, n_gsCons, n_gsNil, n_eLC, n_iSeq, n_seq_s, n_seq_l, n_seq_t, n_seq_k,
 rq1_e, rq2_e, n_iRng1m, n_iRng2m, n_eSl, n_oNone, n_oSome, n_eMeth, n_eRev, apQ_e, n_sAppend, n_sAug, n_fnM, n_ret, n_ask, n_dTuple, cif_t, cif_f, isB_bl, isI_int, optP_s, hasT,
 getS, setS, frzS, startE, slK, wipeE, put0, put1, put2, put3, q_add_i, q_add_s, q_add_t, q_add_l, q_sub, q_mul_i, q_mul_s, q_mod, q_neg, q_lt, q_le, q_gt, q_ge, q_eq_i, q_ne_i, q_eq_s, q_ne_s, q_is_bb, q_is_bn, q_is_in, q_is_sn, q_is_tn, q_is_nn, q_isn_bb, q_isn_bn, q_isn_in, q_isn_sn, q_isn_tn, q_isn_nn,
 q_it_l, q_it_t, q_it_k, q_it_s, at0, at1, at2, at3, atm1_1, atm1_2, atm1_a, q_len_s, q_len_l, q_len_t, q_isi, q_int, q_str, ty_int, ty_str, ty_bl, ty_lst, ty_tup, ty_kt, ty_non, isiT, q_sl_s, q_sl_t, q_sl_l,
 n_iZipU, n_iEnU, eqU_l, zqU_ll, zqU_lt, zqU_ls, eqU_t, zqU_tl, zqU_tt, zqU_ts, eqU_s, zqU_sl, zqU_st, zqU_ss, eqU_k,
 List.map_cons, List.map_nil, List.length_cons, List.length_nil, List.cons_append, List.nil_append, List.append_nil, List.replicate_zero, List.replicate_succ, Nat.reduceAdd, Nat.reduceSub, Nat.reduceEqDiff, Nat.reduceLeDiff, Int.reduceAdd, Int.reduceSub, Int.reduceMul, Int.reduceMod, Int.reduceNeg, Int.reduceLT, Int.reduceLE, Int.reduceBEq, decide_true, decide_false, Bool.not_true, Bool.not_false, true_and, and_true, Nat.zero_add]
  have s2 : small 2 := by unfold small; omega
  refine ⟨.inl s2, (show 2 ≤ lim by decide), sp_law_sign (by omega) (by omega) ?_⟩
  try simp only [n_eVar, n_eVarB, varQ_fz, varB_fz, varB_ow, n_eC, n_eCall, n_aCons, n_aNil, n_eBin, n_eUn, n_eTup, n_eLst, n_eIf, n_eAnd, n_eOr, n_eNot, n_eChain, n_tVal, n_tNot, n_tAnd, n_tOr, n_tTrue,
 n_sSeq, n_sIf, n_sNil, n_sRet, n_sExpr, n_sBreak, n_sCont, n_sSet, n_sSetO, n_sSetZ, n_sFrz, n_sFor, n_gN, pq2_e, n_sPar, n_sParFG, n_sParGF, n_sParFF, n_sP3, n_sP4, n_eTupR, n_eLstR, n_eRevT, q_revT, n_sAsg, n_gTn_t, n_gTn_k, n_gsCons, n_gsNil, n_eLC, n_iSeq, n_seq_s, n_seq_l, n_seq_t, n_seq_k,
 rq1_e, rq2_e, n_iRng1m, n_iRng2m, n_eSl, n_oNone, n_oSome, n_eMeth, n_eRev, apQ_e, n_sAppend, n_sAug, n_fnM, n_ret, n_ask, n_dTuple, cif_t, cif_f, isB_bl, isI_int, optP_s, hasT,
 getS, setS, frzS, startE, slK, wipeE, put0, put1, put2, put3, q_add_i, q_add_s, q_add_t, q_add_l, q_sub, q_mul_i, q_mul_s, q_mod, q_neg, q_lt, q_le, q_gt, q_ge, q_eq_i, q_ne_i, q_eq_s, q_ne_s, q_is_bb, q_is_bn, q_is_in, q_is_sn, q_is_tn, q_is_nn, q_isn_bb, q_isn_bn, q_isn_in, q_isn_sn, q_isn_tn, q_isn_nn,
 q_it_l, q_it_t, q_it_k, q_it_s, at0, at1, at2, at3, atm1_1, atm1_2, atm1_a, q_len_s, q_len_l, q_len_t, q_isi, q_int, q_str, ty_int, ty_str, ty_bl, ty_lst, ty_tup, ty_kt, ty_non, isiT, q_sl_s, q_sl_t, q_sl_l,
 n_iZipU, n_iEnU, eqU_l, zqU_ll, zqU_lt, zqU_ls, eqU_t, zqU_tl, zqU_tt, zqU_ts, eqU_s, zqU_sl, zqU_st, zqU_ss, eqU_k,
 List.map_cons, List.map_nil, List.length_cons, List.length_nil, List.cons_append, List.nil_append, List.append_nil, List.replicate_zero, List.replicate_succ, Nat.reduceAdd, Nat.reduceSub, Nat.reduceEqDiff, Nat.reduceLeDiff, Int.reduceAdd, Int.reduceSub, Int.reduceMul, Int.reduceMod, Int.reduceNeg, Int.reduceLT, Int.reduceLE, Int.reduceBEq, decide_true, decide_false, Bool.not_true, Bool.not_false, true_and, and_true, Nat.zero_add]
  rw [sg_lo w1]
  try simp only [n_eVar, n_eVarB, varQ_fz, varB_fz, varB_ow, n_eC, n_eCall, n_aCons, n_aNil, n_eBin, n_eUn, n_eTup, n_eLst, n_eIf, n_eAnd, n_eOr, n_eNot, n_eChain, n_tVal, n_tNot, n_tAnd, n_tOr, n_tTrue,
 n_sSeq, n_sIf, n_sNil, n_sRet, n_sExpr, n_sBreak, n_sCont, n_sSet, n_sSetO, n_sSetZ, n_sFrz, n_sFor, n_gN, pq2_e, n_sPar, n_sParFG, n_sParGF, n_sParFF, n_sP3, n_sP4, n_eTupR, n_eLstR, n_eRevT, q_revT, n_sAsg, n_gTn_t, n_gTn_k, n_gsCons, n_gsNil, n_eLC, n_iSeq, n_seq_s, n_seq_l, n_seq_t, n_seq_k,
 rq1_e, rq2_e, n_iRng1m, n_iRng2m, n_eSl, n_oNone, n_oSome, n_eMeth, n_eRev, apQ_e, n_sAppend, n_sAug, n_fnM, n_ret, n_ask, n_dTuple, cif_t, cif_f, isB_bl, isI_int, optP_s, hasT,
 getS, setS, frzS, startE, slK, wipeE, put0, put1, put2, put3, q_add_i, q_add_s, q_add_t, q_add_l, q_sub, q_mul_i, q_mul_s, q_mod, q_neg, q_lt, q_le, q_gt, q_ge, q_eq_i, q_ne_i, q_eq_s, q_ne_s, q_is_bb, q_is_bn, q_is_in, q_is_sn, q_is_tn, q_is_nn, q_isn_bb, q_isn_bn, q_isn_in, q_isn_sn, q_isn_tn, q_isn_nn,
 q_it_l, q_it_t, q_it_k, q_it_s, at0, at1, at2, at3, atm1_1, atm1_2, atm1_a, q_len_s, q_len_l, q_len_t, q_isi, q_int, q_str, ty_int, ty_str, ty_bl, ty_lst, ty_tup, ty_kt, ty_non, isiT, q_sl_s, q_sl_t, q_sl_l,
 n_iZipU, n_iEnU, eqU_l, zqU_ll, zqU_lt, zqU_ls, eqU_t, zqU_tl, zqU_tt, zqU_ts, eqU_s, zqU_sl, zqU_st, zqU_ss, eqU_k,
 List.map_cons, List.map_nil, List.length_cons, List.length_nil, List.cons_append, List.nil_append, List.append_nil, List.replicate_zero, List.replicate_succ, Nat.reduceAdd, Nat.reduceSub, Nat.reduceEqDiff, Nat.reduceLeDiff, Int.reduceAdd, Int.reduceSub, Int.reduceMul, Int.reduceMod, Int.reduceNeg, Int.reduceLT, Int.reduceLE, Int.reduceBEq, decide_true, decide_false, Bool.not_true, Bool.not_false, true_and, and_true, Nat.zero_add]
  refine ⟨.inl s2, (show 2 ≤ lim by decide), sp_law_sign (by omega) (by omega) ?_⟩
  try simp only [n_eVar, n_eVarB, varQ_fz, varB_fz, varB_ow, n_eC, n_eCall, n_aCons, n_aNil, n_eBin, n_eUn, n_eTup, n_eLst, n_eIf, n_eAnd, n_eOr, n_eNot, n_eChain, n_tVal, n_tNot, n_tAnd, n_tOr, n_tTrue,
 n_sSeq, n_sIf, n_sNil, n_sRet, n_sExpr, n_sBreak, n_sCont, n_sSet, n_sSetO, n_sSetZ, n_sFrz, n_sFor, n_gN, pq2_e, n_sPar, n_sParFG, n_sParGF, n_sParFF, n_sP3, n_sP4, n_eTupR, n_eLstR, n_eRevT, q_revT, n_sAsg, n_gTn_t, n_gTn_k, n_gsCons, n_gsNil, n_eLC, n_iSeq, n_seq_s, n_seq_l, n_seq_t, n_seq_k,
 rq1_e, rq2_e, n_iRng1m, n_iRng2m, n_eSl, n_oNone, n_oSome, n_eMeth, n_eRev, apQ_e, n_sAppend, n_sAug, n_fnM, n_ret, n_ask, n_dTuple, cif_t, cif_f, isB_bl, isI_int, optP_s, hasT,
 getS, setS, frzS, startE, slK, wipeE, put0, put1, put2, put3, q_add_i, q_add_s, q_add_t, q_add_l, q_sub, q_mul_i, q_mul_s, q_mod, q_neg, q_lt, q_le, q_gt, q_ge, q_eq_i, q_ne_i, q_eq_s, q_ne_s, q_is_bb, q_is_bn, q_is_in, q_is_sn, q_is_tn, q_is_nn, q_isn_bb, q_isn_bn, q_isn_in, q_isn_sn, q_isn_tn, q_isn_nn,
 q_it_l, q_it_t, q_it_k, q_it_s, at0, at1, at2, at3, atm1_1, atm1_2, atm1_a, q_len_s, q_len_l, q_len_t, q_isi, q_int, q_str, ty_int, ty_str, ty_bl, ty_lst, ty_tup, ty_kt, ty_non, isiT, q_sl_s, q_sl_t, q_sl_l,
 n_iZipU, n_iEnU, eqU_l, zqU_ll, zqU_lt, zqU_ls, eqU_t, zqU_tl, zqU_tt, zqU_ts, eqU_s, zqU_sl, zqU_st, zqU_ss, eqU_k,
 List.map_cons, List.map_nil, List.length_cons, List.length_nil, List.cons_append, List.nil_append, List.append_nil, List.replicate_zero, List.replicate_succ, Nat.reduceAdd, Nat.reduceSub, Nat.reduceEqDiff, Nat.reduceLeDiff, Int.reduceAdd, Int.reduceSub, Int.reduceMul, Int.reduceMod, Int.reduceNeg, Int.reduceLT, Int.reduceLE, Int.reduceBEq, decide_true, decide_false, Bool.not_true, Bool.not_false, true_and, and_true, Nat.zero_add]
  rw [decide_eq_false (show ¬ sg (a - 2 * w - 2) b ≥ 0 from fun h => w2 (sg_pos.mp h))]
  try simp only [n_eVar, n_eVarB, varQ_fz, varB_fz, varB_ow, n_eC, n_eCall, n_aCons, n_aNil, n_eBin, n_eUn, n_eTup, n_eLst, n_eIf, n_eAnd, n_eOr, n_eNot, n_eChain, n_tVal, n_tNot, n_tAnd, n_tOr, n_tTrue,
 n_sSeq, n_sIf, n_sNil, n_sRet, n_sExpr, n_sBreak, n_sCont, n_sSet, n_sSetO, n_sSetZ, n_sFrz, n_sFor, n_gN, pq2_e, n_sPar, n_sParFG, n_sParGF, n_sParFF, n_sP3, n_sP4, n_eTupR, n_eLstR, n_eRevT, q_revT, n_sAsg, n_gTn_t, n_gTn_k, n_gsCons, n_gsNil, n_eLC, n_iSeq, n_seq_s, n_seq_l, n_seq_t, n_seq_k,
 rq1_e, rq2_e, n_iRng1m, n_iRng2m, n_eSl, n_oNone, n_oSome, n_eMeth, n_eRev, apQ_e, n_sAppend, n_sAug, n_fnM, n_ret, n_ask, n_dTuple, cif_t, cif_f, isB_bl, isI_int, optP_s, hasT,
 getS, setS, frzS, startE, slK, wipeE, put0, put1, put2, put3, q_add_i, q_add_s, q_add_t, q_add_l, q_sub, q_mul_i, q_mul_s, q_mod, q_neg, q_lt, q_le, q_gt, q_ge, q_eq_i, q_ne_i, q_eq_s, q_ne_s, q_is_bb, q_is_bn, q_is_in, q_is_sn, q_is_tn, q_is_nn, q_isn_bb, q_isn_bn, q_isn_in, q_isn_sn, q_isn_tn, q_isn_nn,
 q_it_l, q_it_t, q_it_k, q_it_s, at0, at1, at2, at3, atm1_1, atm1_2, atm1_a, q_len_s, q_len_l, q_len_t, q_isi, q_int, q_str, ty_int, ty_str, ty_bl, ty_lst, ty_tup, ty_kt, ty_non, isiT, q_sl_s, q_sl_t, q_sl_l,
 n_iZipU, n_iEnU, eqU_l, zqU_ll, zqU_lt, zqU_ls, eqU_t, zqU_tl, zqU_tt, zqU_ts, eqU_s, zqU_sl, zqU_st, zqU_ss, eqU_k,
 List.map_cons, List.map_nil, List.length_cons, List.length_nil, List.cons_append, List.nil_append, List.append_nil, List.replicate_zero, List.replicate_succ, Nat.reduceAdd, Nat.reduceSub, Nat.reduceEqDiff, Nat.reduceLeDiff, Int.reduceAdd, Int.reduceSub, Int.reduceMul, Int.reduceMod, Int.reduceNeg, Int.reduceLT, Int.reduceLE, Int.reduceBEq, decide_true, decide_false, Bool.not_true, Bool.not_false, true_and, and_true, Nat.zero_add]
  have sa : small a := by unfold small; omega
  have sb : small b := by unfold small; omega
  have p1 := pr9 a1 a2 d1 d2
  have p2 := pr9 b1 b2 c1 c2
  simp only [B2_law, n_eVar, n_eVarB, varQ_fz, varB_fz, varB_ow, n_eC, n_eCall, n_aCons, n_aNil, n_eBin, n_eUn, n_eTup, n_eLst, n_eIf, n_eAnd, n_eOr, n_eNot, n_eChain, n_tVal, n_tNot, n_tAnd, n_tOr, n_tTrue,
 n_sSeq, n_sIf, n_sNil, n_sRet, n_sExpr, n_sBreak, n_sCont, n_sSet, n_sSetO, n_sSetZ, n_sFrz, n_sFor, n_gN, pq2_e, n_sPar, n_sParFG, n_sParGF, n_sParFF, n_sP3, n_sP4, n_eTupR, n_eLstR, n_eRevT, q_revT, n_sAsg, n_gTn_t, n_gTn_k, n_gsCons, n_gsNil, n_eLC, n_iSeq, n_seq_s, n_seq_l, n_seq_t, n_seq_k,
 rq1_e, rq2_e, n_iRng1m, n_iRng2m, n_eSl, n_oNone, n_oSome, n_eMeth, n_eRev, apQ_e, n_sAppend, n_sAug, n_fnM, n_ret, n_ask, n_dTuple, cif_t, cif_f, isB_bl, isI_int, optP_s, hasT,
 getS, setS, frzS, startE, slK, wipeE, put0, put1, put2, put3, q_add_i, q_add_s, q_add_t, q_add_l, q_sub, q_mul_i, q_mul_s, q_mod, q_neg, q_lt, q_le, q_gt, q_ge, q_eq_i, q_ne_i, q_eq_s, q_ne_s, q_is_bb, q_is_bn, q_is_in, q_is_sn, q_is_tn, q_is_nn, q_isn_bb, q_isn_bn, q_isn_in, q_isn_sn, q_isn_tn, q_isn_nn,
 q_it_l, q_it_t, q_it_k, q_it_s, at0, at1, at2, at3, atm1_1, atm1_2, atm1_a, q_len_s, q_len_l, q_len_t, q_isi, q_int, q_str, ty_int, ty_str, ty_bl, ty_lst, ty_tup, ty_kt, ty_non, isiT, q_sl_s, q_sl_t, q_sl_l,
 n_iZipU, n_iEnU, eqU_l, zqU_ll, zqU_lt, zqU_ls, eqU_t, zqU_tl, zqU_tt, zqU_ts, eqU_s, zqU_sl, zqU_st, zqU_ss, eqU_k,
 List.map_cons, List.map_nil, List.length_cons, List.length_nil, List.cons_append, List.nil_append, List.append_nil, List.replicate_zero, List.replicate_succ, Nat.reduceAdd, Nat.reduceSub, Nat.reduceEqDiff, Nat.reduceLeDiff, Int.reduceAdd, Int.reduceSub, Int.reduceMul, Int.reduceMod, Int.reduceNeg, Int.reduceLT, Int.reduceLE, Int.reduceBEq, decide_true, decide_false, Bool.not_true, Bool.not_false, true_and, and_true, Nat.zero_add]
  refine ⟨.inl sa, .inl sb, .inr s2, .inl sb, .inl sa, (show 2 ≤ lim by decide), ?_⟩
  rw [show a * c + b * d * 2 = a * c + 2 * (b * d) by grind, show b * c + a * d = a * d + b * c by omega]
  simp only [B1_law, n_eVar, n_eVarB, varQ_fz, varB_fz, varB_ow, n_eC, n_eCall, n_aCons, n_aNil, n_eBin, n_eUn, n_eTup, n_eLst, n_eIf, n_eAnd, n_eOr, n_eNot, n_eChain, n_tVal, n_tNot, n_tAnd, n_tOr, n_tTrue,
 n_sSeq, n_sIf, n_sNil, n_sRet, n_sExpr, n_sBreak, n_sCont, n_sSet, n_sSetO, n_sSetZ, n_sFrz, n_sFor, n_gN, pq2_e, n_sPar, n_sParFG, n_sParGF, n_sParFF, n_sP3, n_sP4, n_eTupR, n_eLstR, n_eRevT, q_revT, n_sAsg, n_gTn_t, n_gTn_k, n_gsCons, n_gsNil, n_eLC, n_iSeq, n_seq_s, n_seq_l, n_seq_t, n_seq_k,
 rq1_e, rq2_e, n_iRng1m, n_iRng2m, n_eSl, n_oNone, n_oSome, n_eMeth, n_eRev, apQ_e, n_sAppend, n_sAug, n_fnM, n_ret, n_ask, n_dTuple, cif_t, cif_f, isB_bl, isI_int, optP_s, hasT,
 getS, setS, frzS, startE, slK, wipeE, put0, put1, put2, put3, q_add_i, q_add_s, q_add_t, q_add_l, q_sub, q_mul_i, q_mul_s, q_mod, q_neg, q_lt, q_le, q_gt, q_ge, q_eq_i, q_ne_i, q_eq_s, q_ne_s, q_is_bb, q_is_bn, q_is_in, q_is_sn, q_is_tn, q_is_nn, q_isn_bb, q_isn_bn, q_isn_in, q_isn_sn, q_isn_tn, q_isn_nn,
 q_it_l, q_it_t, q_it_k, q_it_s, at0, at1, at2, at3, atm1_1, atm1_2, atm1_a, q_len_s, q_len_l, q_len_t, q_isi, q_int, q_str, ty_int, ty_str, ty_bl, ty_lst, ty_tup, ty_kt, ty_non, isiT, q_sl_s, q_sl_t, q_sl_l,
 n_iZipU, n_iEnU, eqU_l, zqU_ll, zqU_lt, zqU_ls, eqU_t, zqU_tl, zqU_tt, zqU_ts, eqU_s, zqU_sl, zqU_st, zqU_ss, eqU_k,
 List.map_cons, List.map_nil, List.length_cons, List.length_nil, List.cons_append, List.nil_append, List.append_nil, List.replicate_zero, List.replicate_succ, Nat.reduceAdd, Nat.reduceSub, Nat.reduceEqDiff, Nat.reduceLeDiff, Int.reduceAdd, Int.reduceSub, Int.reduceMul, Int.reduceMod, Int.reduceNeg, Int.reduceLT, Int.reduceLE, Int.reduceBEq, decide_true, decide_false, Bool.not_true, Bool.not_false, true_and, and_true, Nat.zero_add]
  refine sp_product a1 a2 b1 b2 c1 c2 d1 d2 (sp_law_same (by simp [nD, smD, smD_int, lim]) ?_)
  try simp only [n_eVar, n_eVarB, varQ_fz, varB_fz, varB_ow, n_eC, n_eCall, n_aCons, n_aNil, n_eBin, n_eUn, n_eTup, n_eLst, n_eIf, n_eAnd, n_eOr, n_eNot, n_eChain, n_tVal, n_tNot, n_tAnd, n_tOr, n_tTrue,
 n_sSeq, n_sIf, n_sNil, n_sRet, n_sExpr, n_sBreak, n_sCont, n_sSet, n_sSetO, n_sSetZ, n_sFrz, n_sFor, n_gN, pq2_e, n_sPar, n_sParFG, n_sParGF, n_sParFF, n_sP3, n_sP4, n_eTupR, n_eLstR, n_eRevT, q_revT, n_sAsg, n_gTn_t, n_gTn_k, n_gsCons, n_gsNil, n_eLC, n_iSeq, n_seq_s, n_seq_l, n_seq_t, n_seq_k,
 rq1_e, rq2_e, n_iRng1m, n_iRng2m, n_eSl, n_oNone, n_oSome, n_eMeth, n_eRev, apQ_e, n_sAppend, n_sAug, n_fnM, n_ret, n_ask, n_dTuple, cif_t, cif_f, isB_bl, isI_int, optP_s, hasT,
 getS, setS, frzS, startE, slK, wipeE, put0, put1, put2, put3, q_add_i, q_add_s, q_add_t, q_add_l, q_sub, q_mul_i, q_mul_s, q_mod, q_neg, q_lt, q_le, q_gt, q_ge, q_eq_i, q_ne_i, q_eq_s, q_ne_s, q_is_bb, q_is_bn, q_is_in, q_is_sn, q_is_tn, q_is_nn, q_isn_bb, q_isn_bn, q_isn_in, q_isn_sn, q_isn_tn, q_isn_nn,
 q_it_l, q_it_t, q_it_k, q_it_s, at0, at1, at2, at3, atm1_1, atm1_2, atm1_a, q_len_s, q_len_l, q_len_t, q_isi, q_int, q_str, ty_int, ty_str, ty_bl, ty_lst, ty_tup, ty_kt, ty_non, isiT, q_sl_s, q_sl_t, q_sl_l,
 n_iZipU, n_iEnU, eqU_l, zqU_ll, zqU_lt, zqU_ls, eqU_t, zqU_tl, zqU_tt, zqU_ts, eqU_s, zqU_sl, zqU_st, zqU_ss, eqU_k,
 List.map_cons, List.map_nil, List.length_cons, List.length_nil, List.cons_append, List.nil_append, List.append_nil, List.replicate_zero, List.replicate_succ, Nat.reduceAdd, Nat.reduceSub, Nat.reduceEqDiff, Nat.reduceLeDiff, Int.reduceAdd, Int.reduceSub, Int.reduceMul, Int.reduceMod, Int.reduceNeg, Int.reduceLT, Int.reduceLE, Int.reduceBEq, decide_true, decide_false, Bool.not_true, Bool.not_false, true_and, and_true, Nat.zero_add]
  refine sp_law_sign (by omega) (by omega) (sp_law_sign (by omega) (by omega) (sp_law_sign (by omega) (by omega) ?_))
  rw [sg_mul]
  try simp only [n_eVar, n_eVarB, varQ_fz, varB_fz, varB_ow, n_eC, n_eCall, n_aCons, n_aNil, n_eBin, n_eUn, n_eTup, n_eLst, n_eIf, n_eAnd, n_eOr, n_eNot, n_eChain, n_tVal, n_tNot, n_tAnd, n_tOr, n_tTrue,
 n_sSeq, n_sIf, n_sNil, n_sRet, n_sExpr, n_sBreak, n_sCont, n_sSet, n_sSetO, n_sSetZ, n_sFrz, n_sFor, n_gN, pq2_e, n_sPar, n_sParFG, n_sParGF, n_sParFF, n_sP3, n_sP4, n_eTupR, n_eLstR, n_eRevT, q_revT, n_sAsg, n_gTn_t, n_gTn_k, n_gsCons, n_gsNil, n_eLC, n_iSeq, n_seq_s, n_seq_l, n_seq_t, n_seq_k,
 rq1_e, rq2_e, n_iRng1m, n_iRng2m, n_eSl, n_oNone, n_oSome, n_eMeth, n_eRev, apQ_e, n_sAppend, n_sAug, n_fnM, n_ret, n_ask, n_dTuple, cif_t, cif_f, isB_bl, isI_int, optP_s, hasT,
 getS, setS, frzS, startE, slK, wipeE, put0, put1, put2, put3, q_add_i, q_add_s, q_add_t, q_add_l, q_sub, q_mul_i, q_mul_s, q_mod, q_neg, q_lt, q_le, q_gt, q_ge, q_eq_i, q_ne_i, q_eq_s, q_ne_s, q_is_bb, q_is_bn, q_is_in, q_is_sn, q_is_tn, q_is_nn, q_isn_bb, q_isn_bn, q_isn_in, q_isn_sn, q_isn_tn, q_isn_nn,
 q_it_l, q_it_t, q_it_k, q_it_s, at0, at1, at2, at3, atm1_1, atm1_2, atm1_a, q_len_s, q_len_l, q_len_t, q_isi, q_int, q_str, ty_int, ty_str, ty_bl, ty_lst, ty_tup, ty_kt, ty_non, isiT, q_sl_s, q_sl_t, q_sl_l,
 n_iZipU, n_iEnU, eqU_l, zqU_ll, zqU_lt, zqU_ls, eqU_t, zqU_tl, zqU_tt, zqU_ts, eqU_s, zqU_sl, zqU_st, zqU_ss, eqU_k,
 List.map_cons, List.map_nil, List.length_cons, List.length_nil, List.cons_append, List.nil_append, List.append_nil, List.replicate_zero, List.replicate_succ, Nat.reduceAdd, Nat.reduceSub, Nat.reduceEqDiff, Nat.reduceLeDiff, Int.reduceAdd, Int.reduceSub, Int.reduceMul, Int.reduceMod, Int.reduceNeg, Int.reduceLT, Int.reduceLE, Int.reduceBEq, decide_true, decide_false, Bool.not_true, Bool.not_false, true_and, and_true, Nat.zero_add]
  refine ⟨.inl (sg_bnd _ _), ?_⟩
  rw [show (sg a b * sg c d == sg a b * sg c d) = true by simp]
  exact hK _ ⟨_, _, _, _, _, _, _, _, _, _, _, _, _, _, _, _, _, _, _, _, _, _, rfl⟩
theorem eqv_pr2 {x m : Int × Int} : eqv (prD2 x) (prD2 m) = decide (x = m) := eqv_pr
theorem mem_prs {x : Int × Int} : ∀ {m : List (Int × Int)}, memD (prD2 x) (m.map prD2) = decide (x ∈ m)
  | [] => rfl
  | y :: m => by
    show (eqv (prD2 y) (prD2 x) || memD (prD2 x) (m.map prD2)) = _
    rw [mem_prs, eqv_pr, Bool.eq_iff_iff]
    simp only [Bool.or_eq_true, decide_eq_true_eq, List.mem_cons]
    constructor
    · rintro (h | h)
      · exact .inl h.symm
      · exact .inr h
    · rintro (h | h)
      · exact .inl h.symm
      · exact .inr h
theorem q_nin_pr {x : Int × Int} {m : List (Int × Int)} {Q : D → Prop} (h : x ∈ m) (k : Q (.bl false)) : dNotInA (prD2 x) (.lst (m.map prD2)) Q := by
  refine ⟨⟨by simp [prD2, okD, okD_int, deep], okD_prs⟩, ?_⟩
  rw [mem_prs, decide_eq_true h]
  exact k
theorem ne_nil {Q : D → Prop} (h : Q (.bl false)) : dNe (.lst []) (.lst []) Q := ⟨⟨rfl, rfl⟩, h⟩
/-- a side of the box -/
theorem side {s : List Nat} (hl : s.length ≤ 120) {K R : Env → Prop} {a b c d m : Int × Int} {j : Nat} {sd sn : Int} {f : E8 → Int × Int} {x2 x3 x4 x5 x6 x7 x13 x14 x15 x16 x17 x18 x19 x20 x21 x22 x23 : Sl}
    (hf : (sd = 0 ∧ f = rgt) ∨ (sd = 1 ∧ f = upw)) (hj : [a, b, c, d][j]? = some m) (hm : m ∈ (trailE e0 s).map f) (hs : sn = 1 ∨ sn = -1) (hp : ∀ x ∈ (trailE e0 s).map f, posS (sn * (x.1 - m.1)) (sn * (x.2 - m.2)))
    (hK : ∀ x13 x14 x21 x22 x23, K [.fz (.scr ns), .fz .cup, x2, x3, x4, x5, x6, x7, .fz (.lst ((trailE e0 s).map tD)), .fz (.tup [prD2 a, prD2 b, prD2 c, prD2 d]), .fz (.int j), .fz (.int sd), .fz (.int sn), x13, x14, x15, x16, x17, x18, x19, x20, x21, x22, x23]) :
    B10_law { nx := K, ct := K, bk := R, rt := E.rt } [.fz (.scr ns), .fz .cup, x2, x3, x4, x5, x6, x7, .fz (.lst ((trailE e0 s).map tD)), .fz (.tup [prD2 a, prD2 b, prD2 c, prD2 d]), .fz (.int j), .fz (.int sd), .fz (.int sn), x13, x14, x15, x16, x17, x18, x19, x20, x21, x22, x23] := by
  have ln : ((trailE e0 s).map tD).length ≤ lim := by rw [List.length_map, trail_len]; simp only [lim]; omega
  have atb : atD [prD2 a, prD2 b, prD2 c, prD2 d] (j : Int) = some (prD2 m) := by
    rcases j with _ | _ | _ | _ | j
    · cases hj; rfl
    · cases hj; rfl
    · cases hj; rfl
    · cases hj; rfl
    · cases hj
  simp only [B10_law, n_eVar, n_eVarB, varQ_fz, varB_fz, varB_ow, n_eC, n_eCall, n_aCons, n_aNil, n_eBin, n_eUn, n_eTup, n_eLst, n_eIf, n_eAnd, n_eOr, n_eNot, n_eChain, n_tVal, n_tNot, n_tAnd, n_tOr, n_tTrue,
 n_sSeq, n_sIf, n_sNil, n_sRet, n_sExpr, n_sBreak, n_sCont, n_sSet, n_sSetO, n_sSetZ, n_sFrz, n_sFor, n_gN, pq2_e, n_sPar, n_sParFG, n_sParGF, n_sParFF, n_sP3, n_sP4, n_eTupR, n_eLstR, n_eRevT, q_revT, n_sAsg, n_gTn_t, n_gTn_k, n_gsCons, n_gsNil, n_eLC, n_iSeq, n_seq_s, n_seq_l, n_seq_t, n_seq_k,
 rq1_e, rq2_e, n_iRng1m, n_iRng2m, n_eSl, n_oNone, n_oSome, n_eMeth, n_eRev, apQ_e, n_sAppend, n_sAug, n_fnM, n_ret, n_ask, n_dTuple, cif_t, cif_f, isB_bl, isI_int, optP_s, hasT,
 getS, setS, frzS, startE, slK, wipeE, put0, put1, put2, put3, q_add_i, q_add_s, q_add_t, q_add_l, q_sub, q_mul_i, q_mul_s, q_mod, q_neg, q_lt, q_le, q_gt, q_ge, q_eq_i, q_ne_i, q_eq_s, q_ne_s, q_is_bb, q_is_bn, q_is_in, q_is_sn, q_is_tn, q_is_nn, q_isn_bb, q_isn_bn, q_isn_in, q_isn_sn, q_isn_tn, q_isn_nn,
 q_it_l, q_it_t, q_it_k, q_it_s, at0, at1, at2, at3, atm1_1, atm1_2, atm1_a, q_len_s, q_len_l, q_len_t, q_isi, q_int, q_str, ty_int, ty_str, ty_bl, ty_lst, ty_tup, ty_kt, ty_non, isiT, q_sl_s, q_sl_t, q_sl_l,
 n_iZipU, n_iEnU, eqU_l, zqU_ll, zqU_lt, zqU_ls, eqU_t, zqU_tl, zqU_tt, zqU_ts, eqU_s, zqU_sl, zqU_st, zqU_ss, eqU_k,
 List.map_cons, List.map_nil, List.length_cons, List.length_nil, List.cons_append, List.nil_append, List.append_nil, List.replicate_zero, List.replicate_succ, Nat.reduceAdd, Nat.reduceSub, Nat.reduceEqDiff, Nat.reduceLeDiff, Int.reduceAdd, Int.reduceSub, Int.reduceMul, Int.reduceMod, Int.reduceNeg, Int.reduceLT, Int.reduceLE, Int.reduceBEq, decide_true, decide_false, Bool.not_true, Bool.not_false, true_and, and_true, Nat.zero_add]
  refine ⟨ln, ?_⟩
  refine lc_eachm tD (fun e => prD2 (f e)) _ (fun e he K hK => ?_) ?_
  · rcases hf with ⟨rfl, rfl⟩ | ⟨rfl, rfl⟩
    · simp only [tD_eq, n_eVar, n_eVarB, varQ_fz, varB_fz, varB_ow, n_eC, n_eCall, n_aCons, n_aNil, n_eBin, n_eUn, n_eTup, n_eLst, n_eIf, n_eAnd, n_eOr, n_eNot, n_eChain, n_tVal, n_tNot, n_tAnd, n_tOr, n_tTrue,
 n_sSeq, n_sIf, n_sNil, n_sRet, n_sExpr, n_sBreak, n_sCont, n_sSet, n_sSetO, n_sSetZ, n_sFrz, n_sFor, n_gN, pq2_e, n_sPar, n_sParFG, n_sParGF, n_sParFF, n_sP3, n_sP4, n_eTupR, n_eLstR, n_eRevT, q_revT, n_sAsg, n_gTn_t, n_gTn_k, n_gsCons, n_gsNil, n_eLC, n_iSeq, n_seq_s, n_seq_l, n_seq_t, n_seq_k,
 rq1_e, rq2_e, n_iRng1m, n_iRng2m, n_eSl, n_oNone, n_oSome, n_eMeth, n_eRev, apQ_e, n_sAppend, n_sAug, n_fnM, n_ret, n_ask, n_dTuple, cif_t, cif_f, isB_bl, isI_int, optP_s, hasT,
 getS, setS, frzS, startE, slK, wipeE, put0, put1, put2, put3, q_add_i, q_add_s, q_add_t, q_add_l, q_sub, q_mul_i, q_mul_s, q_mod, q_neg, q_lt, q_le, q_gt, q_ge, q_eq_i, q_ne_i, q_eq_s, q_ne_s, q_is_bb, q_is_bn, q_is_in, q_is_sn, q_is_tn, q_is_nn, q_isn_bb, q_isn_bn, q_isn_in, q_isn_sn, q_isn_tn, q_isn_nn,
 q_it_l, q_it_t, q_it_k, q_it_s, at0, at1, at2, at3, atm1_1, atm1_2, atm1_a, q_len_s, q_len_l, q_len_t, q_isi, q_int, q_str, ty_int, ty_str, ty_bl, ty_lst, ty_tup, ty_kt, ty_non, isiT, q_sl_s, q_sl_t, q_sl_l,
 n_iZipU, n_iEnU, eqU_l, zqU_ll, zqU_lt, zqU_ls, eqU_t, zqU_tl, zqU_tt, zqU_ts, eqU_s, zqU_sl, zqU_st, zqU_ss, eqU_k,
 List.map_cons, List.map_nil, List.length_cons, List.length_nil, List.cons_append, List.nil_append, List.append_nil, List.replicate_zero, List.replicate_succ, Nat.reduceAdd, Nat.reduceSub, Nat.reduceEqDiff, Nat.reduceLeDiff, Int.reduceAdd, Int.reduceSub, Int.reduceMul, Int.reduceMod, Int.reduceNeg, Int.reduceLT, Int.reduceLE, Int.reduceBEq, decide_true, decide_false, Bool.not_true, Bool.not_false, true_and, and_true, Nat.zero_add]
      exact hK
    · simp only [tD_eq, n_eVar, n_eVarB, varQ_fz, varB_fz, varB_ow, n_eC, n_eCall, n_aCons, n_aNil, n_eBin, n_eUn, n_eTup, n_eLst, n_eIf, n_eAnd, n_eOr, n_eNot, n_eChain, n_tVal, n_tNot, n_tAnd, n_tOr, n_tTrue,
 n_sSeq, n_sIf, n_sNil, n_sRet, n_sExpr, n_sBreak, n_sCont, n_sSet, n_sSetO, n_sSetZ, n_sFrz, n_sFor, n_gN, pq2_e, n_sPar, n_sParFG, n_sParGF, n_sParFF, n_sP3, n_sP4, n_eTupR, n_eLstR, n_eRevT, q_revT, n_sAsg, n_gTn_t, n_gTn_k, n_gsCons, n_gsNil, n_eLC, n_iSeq, n_seq_s, n_seq_l, n_seq_t, n_seq_k,
 rq1_e, rq2_e, n_iRng1m, n_iRng2m, n_eSl, n_oNone, n_oSome, n_eMeth, n_eRev, apQ_e, n_sAppend, n_sAug, n_fnM, n_ret, n_ask, n_dTuple, cif_t, cif_f, isB_bl, isI_int, optP_s, hasT,
 getS, setS, frzS, startE, slK, wipeE, put0, put1, put2, put3, q_add_i, q_add_s, q_add_t, q_add_l, q_sub, q_mul_i, q_mul_s, q_mod, q_neg, q_lt, q_le, q_gt, q_ge, q_eq_i, q_ne_i, q_eq_s, q_ne_s, q_is_bb, q_is_bn, q_is_in, q_is_sn, q_is_tn, q_is_nn, q_isn_bb, q_isn_bn, q_isn_in, q_isn_sn, q_isn_tn, q_isn_nn,
 q_it_l, q_it_t, q_it_k, q_it_s, at0, at1, at2, at3, atm1_1, atm1_2, atm1_a, q_len_s, q_len_l, q_len_t, q_isi, q_int, q_str, ty_int, ty_str, ty_bl, ty_lst, ty_tup, ty_kt, ty_non, isiT, q_sl_s, q_sl_t, q_sl_l,
 n_iZipU, n_iEnU, eqU_l, zqU_ll, zqU_lt, zqU_ls, eqU_t, zqU_tl, zqU_tt, zqU_ts, eqU_s, zqU_sl, zqU_st, zqU_ss, eqU_k,
 List.map_cons, List.map_nil, List.length_cons, List.length_nil, List.cons_append, List.nil_append, List.append_nil, List.replicate_zero, List.replicate_succ, Nat.reduceAdd, Nat.reduceSub, Nat.reduceEqDiff, Nat.reduceLeDiff, Int.reduceAdd, Int.reduceSub, Int.reduceMul, Int.reduceMod, Int.reduceNeg, Int.reduceLT, Int.reduceLE, Int.reduceBEq, decide_true, decide_false, Bool.not_true, Bool.not_false, true_and, and_true, Nat.zero_add]
      exact hK
  rw [show List.map (fun e => prD2 (f e)) (trailE e0 s) = ((trailE e0 s).map f).map prD2 by rw [List.map_map]; rfl]
  have sn_small : small sn := by rcases hs with rfl | rfl <;> (unfold small; omega)
  simp only [B9_law, n_eVar, n_eVarB, varQ_fz, varB_fz, varB_ow, n_eC, n_eCall, n_aCons, n_aNil, n_eBin, n_eUn, n_eTup, n_eLst, n_eIf, n_eAnd, n_eOr, n_eNot, n_eChain, n_tVal, n_tNot, n_tAnd, n_tOr, n_tTrue,
 n_sSeq, n_sIf, n_sNil, n_sRet, n_sExpr, n_sBreak, n_sCont, n_sSet, n_sSetO, n_sSetZ, n_sFrz, n_sFor, n_gN, pq2_e, n_sPar, n_sParFG, n_sParGF, n_sParFF, n_sP3, n_sP4, n_eTupR, n_eLstR, n_eRevT, q_revT, n_sAsg, n_gTn_t, n_gTn_k, n_gsCons, n_gsNil, n_eLC, n_iSeq, n_seq_s, n_seq_l, n_seq_t, n_seq_k,
 rq1_e, rq2_e, n_iRng1m, n_iRng2m, n_eSl, n_oNone, n_oSome, n_eMeth, n_eRev, apQ_e, n_sAppend, n_sAug, n_fnM, n_ret, n_ask, n_dTuple, cif_t, cif_f, isB_bl, isI_int, optP_s, hasT,
 getS, setS, frzS, startE, slK, wipeE, put0, put1, put2, put3, q_add_i, q_add_s, q_add_t, q_add_l, q_sub, q_mul_i, q_mul_s, q_mod, q_neg, q_lt, q_le, q_gt, q_ge, q_eq_i, q_ne_i, q_eq_s, q_ne_s, q_is_bb, q_is_bn, q_is_in, q_is_sn, q_is_tn, q_is_nn, q_isn_bb, q_isn_bn, q_isn_in, q_isn_sn, q_isn_tn, q_isn_nn,
 q_it_l, q_it_t, q_it_k, q_it_s, at0, at1, at2, at3, atm1_1, atm1_2, atm1_a, q_len_s, q_len_l, q_len_t, q_isi, q_int, q_str, ty_int, ty_str, ty_bl, ty_lst, ty_tup, ty_kt, ty_non, isiT, q_sl_s, q_sl_t, q_sl_l,
 n_iZipU, n_iEnU, eqU_l, zqU_ll, zqU_lt, zqU_ls, eqU_t, zqU_tl, zqU_tt, zqU_ts, eqU_s, zqU_sl, zqU_st, zqU_ss, eqU_k,
 List.map_cons, List.map_nil, List.length_cons, List.length_nil, List.cons_append, List.nil_append, List.append_nil, List.replicate_zero, List.replicate_succ, Nat.reduceAdd, Nat.reduceSub, Nat.reduceEqDiff, Nat.reduceLeDiff, Int.reduceAdd, Int.reduceSub, Int.reduceMul, Int.reduceMod, Int.reduceNeg, Int.reduceLT, Int.reduceLE, Int.reduceBEq, decide_true, decide_false, Bool.not_true, Bool.not_false, true_and, and_true, Nat.zero_add]
  refine ⟨by rw [List.length_map, List.length_map, trail_len]; simp only [lim]; omega, ?_⟩
  refine lc_eachm prD2 (fun x : Int × Int => prD2 (sn * (x.1 - m.1), sn * (x.2 - m.2))) _ (fun e he K hK => ?_) ?_
  · simp only [atb, n_eVar, n_eVarB, varQ_fz, varB_fz, varB_ow, n_eC, n_eCall, n_aCons, n_aNil, n_eBin, n_eUn, n_eTup, n_eLst, n_eIf, n_eAnd, n_eOr, n_eNot, n_eChain, n_tVal, n_tNot, n_tAnd, n_tOr, n_tTrue,
 n_sSeq, n_sIf, n_sNil, n_sRet, n_sExpr, n_sBreak, n_sCont, n_sSet, n_sSetO, n_sSetZ, n_sFrz, n_sFor, n_gN, pq2_e, n_sPar, n_sParFG, n_sParGF, n_sParFF, n_sP3, n_sP4, n_eTupR, n_eLstR, n_eRevT, q_revT, n_sAsg, n_gTn_t, n_gTn_k, n_gsCons, n_gsNil, n_eLC, n_iSeq, n_seq_s, n_seq_l, n_seq_t, n_seq_k,
 rq1_e, rq2_e, n_iRng1m, n_iRng2m, n_eSl, n_oNone, n_oSome, n_eMeth, n_eRev, apQ_e, n_sAppend, n_sAug, n_fnM, n_ret, n_ask, n_dTuple, cif_t, cif_f, isB_bl, isI_int, optP_s, hasT,
 getS, setS, frzS, startE, slK, wipeE, put0, put1, put2, put3, q_add_i, q_add_s, q_add_t, q_add_l, q_sub, q_mul_i, q_mul_s, q_mod, q_neg, q_lt, q_le, q_gt, q_ge, q_eq_i, q_ne_i, q_eq_s, q_ne_s, q_is_bb, q_is_bn, q_is_in, q_is_sn, q_is_tn, q_is_nn, q_isn_bb, q_isn_bn, q_isn_in, q_isn_sn, q_isn_tn, q_isn_nn,
 q_it_l, q_it_t, q_it_k, q_it_s, at0, at1, at2, at3, atm1_1, atm1_2, atm1_a, q_len_s, q_len_l, q_len_t, q_isi, q_int, q_str, ty_int, ty_str, ty_bl, ty_lst, ty_tup, ty_kt, ty_non, isiT, q_sl_s, q_sl_t, q_sl_l,
 n_iZipU, n_iEnU, eqU_l, zqU_ll, zqU_lt, zqU_ls, eqU_t, zqU_tl, zqU_tt, zqU_ts, eqU_s, zqU_sl, zqU_st, zqU_ss, eqU_k,
 List.map_cons, List.map_nil, List.length_cons, List.length_nil, List.cons_append, List.nil_append, List.append_nil, List.replicate_zero, List.replicate_succ, Nat.reduceAdd, Nat.reduceSub, Nat.reduceEqDiff, Nat.reduceLeDiff, Int.reduceAdd, Int.reduceSub, Int.reduceMul, Int.reduceMod, Int.reduceNeg, Int.reduceLT, Int.reduceLE, Int.reduceBEq, decide_true, decide_false, Bool.not_true, Bool.not_false, true_and, and_true, Nat.zero_add]
    exact ⟨.inl sn_small, .inl sn_small, (show 2 ≤ lim by decide), hK⟩
  simp only [B8_law, atb, n_eVar, n_eVarB, varQ_fz, varB_fz, varB_ow, n_eC, n_eCall, n_aCons, n_aNil, n_eBin, n_eUn, n_eTup, n_eLst, n_eIf, n_eAnd, n_eOr, n_eNot, n_eChain, n_tVal, n_tNot, n_tAnd, n_tOr, n_tTrue,
 n_sSeq, n_sIf, n_sNil, n_sRet, n_sExpr, n_sBreak, n_sCont, n_sSet, n_sSetO, n_sSetZ, n_sFrz, n_sFor, n_gN, pq2_e, n_sPar, n_sParFG, n_sParGF, n_sParFF, n_sP3, n_sP4, n_eTupR, n_eLstR, n_eRevT, q_revT, n_sAsg, n_gTn_t, n_gTn_k, n_gsCons, n_gsNil, n_eLC, n_iSeq, n_seq_s, n_seq_l, n_seq_t, n_seq_k,
 rq1_e, rq2_e, n_iRng1m, n_iRng2m, n_eSl, n_oNone, n_oSome, n_eMeth, n_eRev, apQ_e, n_sAppend, n_sAug, n_fnM, n_ret, n_ask, n_dTuple, cif_t, cif_f, isB_bl, isI_int, optP_s, hasT,
 getS, setS, frzS, startE, slK, wipeE, put0, put1, put2, put3, q_add_i, q_add_s, q_add_t, q_add_l, q_sub, q_mul_i, q_mul_s, q_mod, q_neg, q_lt, q_le, q_gt, q_ge, q_eq_i, q_ne_i, q_eq_s, q_ne_s, q_is_bb, q_is_bn, q_is_in, q_is_sn, q_is_tn, q_is_nn, q_isn_bb, q_isn_bn, q_isn_in, q_isn_sn, q_isn_tn, q_isn_nn,
 q_it_l, q_it_t, q_it_k, q_it_s, at0, at1, at2, at3, atm1_1, atm1_2, atm1_a, q_len_s, q_len_l, q_len_t, q_isi, q_int, q_str, ty_int, ty_str, ty_bl, ty_lst, ty_tup, ty_kt, ty_non, isiT, q_sl_s, q_sl_t, q_sl_l,
 n_iZipU, n_iEnU, eqU_l, zqU_ll, zqU_lt, zqU_ls, eqU_t, zqU_tl, zqU_tt, zqU_ts, eqU_s, zqU_sl, zqU_st, zqU_ss, eqU_k,
 List.map_cons, List.map_nil, List.length_cons, List.length_nil, List.cons_append, List.nil_append, List.append_nil, List.replicate_zero, List.replicate_succ, Nat.reduceAdd, Nat.reduceSub, Nat.reduceEqDiff, Nat.reduceLeDiff, Int.reduceAdd, Int.reduceSub, Int.reduceMul, Int.reduceMod, Int.reduceNeg, Int.reduceLT, Int.reduceLE, Int.reduceBEq, decide_true, decide_false, Bool.not_true, Bool.not_false, true_and, and_true, Nat.zero_add]
  refine q_nin_pr hm ?_
  try simp only [n_eVar, n_eVarB, varQ_fz, varB_fz, varB_ow, n_eC, n_eCall, n_aCons, n_aNil, n_eBin, n_eUn, n_eTup, n_eLst, n_eIf, n_eAnd, n_eOr, n_eNot, n_eChain, n_tVal, n_tNot, n_tAnd, n_tOr, n_tTrue,
 n_sSeq, n_sIf, n_sNil, n_sRet, n_sExpr, n_sBreak, n_sCont, n_sSet, n_sSetO, n_sSetZ, n_sFrz, n_sFor, n_gN, pq2_e, n_sPar, n_sParFG, n_sParGF, n_sParFF, n_sP3, n_sP4, n_eTupR, n_eLstR, n_eRevT, q_revT, n_sAsg, n_gTn_t, n_gTn_k, n_gsCons, n_gsNil, n_eLC, n_iSeq, n_seq_s, n_seq_l, n_seq_t, n_seq_k,
 rq1_e, rq2_e, n_iRng1m, n_iRng2m, n_eSl, n_oNone, n_oSome, n_eMeth, n_eRev, apQ_e, n_sAppend, n_sAug, n_fnM, n_ret, n_ask, n_dTuple, cif_t, cif_f, isB_bl, isI_int, optP_s, hasT,
 getS, setS, frzS, startE, slK, wipeE, put0, put1, put2, put3, q_add_i, q_add_s, q_add_t, q_add_l, q_sub, q_mul_i, q_mul_s, q_mod, q_neg, q_lt, q_le, q_gt, q_ge, q_eq_i, q_ne_i, q_eq_s, q_ne_s, q_is_bb, q_is_bn, q_is_in, q_is_sn, q_is_tn, q_is_nn, q_isn_bb, q_isn_bn, q_isn_in, q_isn_sn, q_isn_tn, q_isn_nn,
 q_it_l, q_it_t, q_it_k, q_it_s, at0, at1, at2, at3, atm1_1, atm1_2, atm1_a, q_len_s, q_len_l, q_len_t, q_isi, q_int, q_str, ty_int, ty_str, ty_bl, ty_lst, ty_tup, ty_kt, ty_non, isiT, q_sl_s, q_sl_t, q_sl_l,
 n_iZipU, n_iEnU, eqU_l, zqU_ll, zqU_lt, zqU_ls, eqU_t, zqU_tl, zqU_tt, zqU_ts, eqU_s, zqU_sl, zqU_st, zqU_ss, eqU_k,
 List.map_cons, List.map_nil, List.length_cons, List.length_nil, List.cons_append, List.nil_append, List.append_nil, List.replicate_zero, List.replicate_succ, Nat.reduceAdd, Nat.reduceSub, Nat.reduceEqDiff, Nat.reduceLeDiff, Int.reduceAdd, Int.reduceSub, Int.reduceMul, Int.reduceMod, Int.reduceNeg, Int.reduceLT, Int.reduceLE, Int.reduceBEq, decide_true, decide_false, Bool.not_true, Bool.not_false, true_and, and_true, Nat.zero_add]
  refine ⟨by rw [List.length_map, List.length_map, trail_len]; simp only [lim]; omega, ?_⟩
  refine lc_each (fun x : Int × Int => prD2 (sn * (x.1 - m.1), sn * (x.2 - m.2))) (fun _ => false) (fun x : Int × Int => prD2 (sn * (x.1 - m.1), sn * (x.2 - m.2))) _ (fun x hx K K' h1 h2 => ?_) ?_
  · have px := hp x hx
    have bx : -2000 ≤ sn * (x.2 - m.2) ∧ sn * (x.2 - m.2) ≤ 2000 := by
      obtain ⟨e, he, rfl⟩ := List.mem_map.mp hx
      obtain ⟨e2, he2, rfl⟩ := List.mem_map.mp hm
      have c1 := co_bnd (bE_all hl he)
      have c2 := co_bnd (bE_all hl he2)
      rcases hf with ⟨rfl, rfl⟩ | ⟨rfl, rfl⟩ <;> rcases hs with rfl | rfl <;> omega
    simp only [n_eVar, n_eVarB, varQ_fz, varB_fz, varB_ow, n_eC, n_eCall, n_aCons, n_aNil, n_eBin, n_eUn, n_eTup, n_eLst, n_eIf, n_eAnd, n_eOr, n_eNot, n_eChain, n_tVal, n_tNot, n_tAnd, n_tOr, n_tTrue,
 n_sSeq, n_sIf, n_sNil, n_sRet, n_sExpr, n_sBreak, n_sCont, n_sSet, n_sSetO, n_sSetZ, n_sFrz, n_sFor, n_gN, pq2_e, n_sPar, n_sParFG, n_sParGF, n_sParFF, n_sP3, n_sP4, n_eTupR, n_eLstR, n_eRevT, q_revT, n_sAsg, n_gTn_t, n_gTn_k, n_gsCons, n_gsNil, n_eLC, n_iSeq, n_seq_s, n_seq_l, n_seq_t, n_seq_k,
 rq1_e, rq2_e, n_iRng1m, n_iRng2m, n_eSl, n_oNone, n_oSome, n_eMeth, n_eRev, apQ_e, n_sAppend, n_sAug, n_fnM, n_ret, n_ask, n_dTuple, cif_t, cif_f, isB_bl, isI_int, optP_s, hasT,
 getS, setS, frzS, startE, slK, wipeE, put0, put1, put2, put3, q_add_i, q_add_s, q_add_t, q_add_l, q_sub, q_mul_i, q_mul_s, q_mod, q_neg, q_lt, q_le, q_gt, q_ge, q_eq_i, q_ne_i, q_eq_s, q_ne_s, q_is_bb, q_is_bn, q_is_in, q_is_sn, q_is_tn, q_is_nn, q_isn_bb, q_isn_bn, q_isn_in, q_isn_sn, q_isn_tn, q_isn_nn,
 q_it_l, q_it_t, q_it_k, q_it_s, at0, at1, at2, at3, atm1_1, atm1_2, atm1_a, q_len_s, q_len_l, q_len_t, q_isi, q_int, q_str, ty_int, ty_str, ty_bl, ty_lst, ty_tup, ty_kt, ty_non, isiT, q_sl_s, q_sl_t, q_sl_l,
 n_iZipU, n_iEnU, eqU_l, zqU_ll, zqU_lt, zqU_ls, eqU_t, zqU_tl, zqU_tt, zqU_ts, eqU_s, zqU_sl, zqU_st, zqU_ss, eqU_k,
 List.map_cons, List.map_nil, List.length_cons, List.length_nil, List.cons_append, List.nil_append, List.append_nil, List.replicate_zero, List.replicate_succ, Nat.reduceAdd, Nat.reduceSub, Nat.reduceEqDiff, Nat.reduceLeDiff, Int.reduceAdd, Int.reduceSub, Int.reduceMul, Int.reduceMod, Int.reduceNeg, Int.reduceLT, Int.reduceLE, Int.reduceBEq, decide_true, decide_false, Bool.not_true, Bool.not_false, true_and, and_true, Nat.zero_add]
    refine sp_law_sign (by omega) (by omega) ?_
    try simp only [n_eVar, n_eVarB, varQ_fz, varB_fz, varB_ow, n_eC, n_eCall, n_aCons, n_aNil, n_eBin, n_eUn, n_eTup, n_eLst, n_eIf, n_eAnd, n_eOr, n_eNot, n_eChain, n_tVal, n_tNot, n_tAnd, n_tOr, n_tTrue,
 n_sSeq, n_sIf, n_sNil, n_sRet, n_sExpr, n_sBreak, n_sCont, n_sSet, n_sSetO, n_sSetZ, n_sFrz, n_sFor, n_gN, pq2_e, n_sPar, n_sParFG, n_sParGF, n_sParFF, n_sP3, n_sP4, n_eTupR, n_eLstR, n_eRevT, q_revT, n_sAsg, n_gTn_t, n_gTn_k, n_gsCons, n_gsNil, n_eLC, n_iSeq, n_seq_s, n_seq_l, n_seq_t, n_seq_k,
 rq1_e, rq2_e, n_iRng1m, n_iRng2m, n_eSl, n_oNone, n_oSome, n_eMeth, n_eRev, apQ_e, n_sAppend, n_sAug, n_fnM, n_ret, n_ask, n_dTuple, cif_t, cif_f, isB_bl, isI_int, optP_s, hasT,
 getS, setS, frzS, startE, slK, wipeE, put0, put1, put2, put3, q_add_i, q_add_s, q_add_t, q_add_l, q_sub, q_mul_i, q_mul_s, q_mod, q_neg, q_lt, q_le, q_gt, q_ge, q_eq_i, q_ne_i, q_eq_s, q_ne_s, q_is_bb, q_is_bn, q_is_in, q_is_sn, q_is_tn, q_is_nn, q_isn_bb, q_isn_bn, q_isn_in, q_isn_sn, q_isn_tn, q_isn_nn,
 q_it_l, q_it_t, q_it_k, q_it_s, at0, at1, at2, at3, atm1_1, atm1_2, atm1_a, q_len_s, q_len_l, q_len_t, q_isi, q_int, q_str, ty_int, ty_str, ty_bl, ty_lst, ty_tup, ty_kt, ty_non, isiT, q_sl_s, q_sl_t, q_sl_l,
 n_iZipU, n_iEnU, eqU_l, zqU_ll, zqU_lt, zqU_ls, eqU_t, zqU_tl, zqU_tt, zqU_ts, eqU_s, zqU_sl, zqU_st, zqU_ss, eqU_k,
 List.map_cons, List.map_nil, List.length_cons, List.length_nil, List.cons_append, List.nil_append, List.append_nil, List.replicate_zero, List.replicate_succ, Nat.reduceAdd, Nat.reduceSub, Nat.reduceEqDiff, Nat.reduceLeDiff, Int.reduceAdd, Int.reduceSub, Int.reduceMul, Int.reduceMod, Int.reduceNeg, Int.reduceLT, Int.reduceLE, Int.reduceBEq, decide_true, decide_false, Bool.not_true, Bool.not_false, true_and, and_true, Nat.zero_add]
    rw [sg_lo px]
    exact h2 rfl
  rw [List.filter_eq_nil_iff.mpr (by simp)]
  refine ⟨(show 0 ≤ lim by decide), ?_⟩
  refine ne_nil ?_
  try simp only [n_eVar, n_eVarB, varQ_fz, varB_fz, varB_ow, n_eC, n_eCall, n_aCons, n_aNil, n_eBin, n_eUn, n_eTup, n_eLst, n_eIf, n_eAnd, n_eOr, n_eNot, n_eChain, n_tVal, n_tNot, n_tAnd, n_tOr, n_tTrue,
 n_sSeq, n_sIf, n_sNil, n_sRet, n_sExpr, n_sBreak, n_sCont, n_sSet, n_sSetO, n_sSetZ, n_sFrz, n_sFor, n_gN, pq2_e, n_sPar, n_sParFG, n_sParGF, n_sParFF, n_sP3, n_sP4, n_eTupR, n_eLstR, n_eRevT, q_revT, n_sAsg, n_gTn_t, n_gTn_k, n_gsCons, n_gsNil, n_eLC, n_iSeq, n_seq_s, n_seq_l, n_seq_t, n_seq_k,
 rq1_e, rq2_e, n_iRng1m, n_iRng2m, n_eSl, n_oNone, n_oSome, n_eMeth, n_eRev, apQ_e, n_sAppend, n_sAug, n_fnM, n_ret, n_ask, n_dTuple, cif_t, cif_f, isB_bl, isI_int, optP_s, hasT,
 getS, setS, frzS, startE, slK, wipeE, put0, put1, put2, put3, q_add_i, q_add_s, q_add_t, q_add_l, q_sub, q_mul_i, q_mul_s, q_mod, q_neg, q_lt, q_le, q_gt, q_ge, q_eq_i, q_ne_i, q_eq_s, q_ne_s, q_is_bb, q_is_bn, q_is_in, q_is_sn, q_is_tn, q_is_nn, q_isn_bb, q_isn_bn, q_isn_in, q_isn_sn, q_isn_tn, q_isn_nn,
 q_it_l, q_it_t, q_it_k, q_it_s, at0, at1, at2, at3, atm1_1, atm1_2, atm1_a, q_len_s, q_len_l, q_len_t, q_isi, q_int, q_str, ty_int, ty_str, ty_bl, ty_lst, ty_tup, ty_kt, ty_non, isiT, q_sl_s, q_sl_t, q_sl_l,
 n_iZipU, n_iEnU, eqU_l, zqU_ll, zqU_lt, zqU_ls, eqU_t, zqU_tl, zqU_tt, zqU_ts, eqU_s, zqU_sl, zqU_st, zqU_ss, eqU_k,
 List.map_cons, List.map_nil, List.length_cons, List.length_nil, List.cons_append, List.nil_append, List.append_nil, List.replicate_zero, List.replicate_succ, Nat.reduceAdd, Nat.reduceSub, Nat.reduceEqDiff, Nat.reduceLeDiff, Int.reduceAdd, Int.reduceSub, Int.reduceMul, Int.reduceMod, Int.reduceNeg, Int.reduceLT, Int.reduceLE, Int.reduceBEq, decide_true, decide_false, Bool.not_true, Bool.not_false, true_and, and_true, Nat.zero_add]
  exact hK _ _ _ _ _
/-- farthest, cells -/
theorem turnE {s : List Nat} (hl : s.length ≤ 120) (hs : s.all isPc = true) {K : Env → Prop} {x2 x3 x4 x5 x6 x9 x10 x11 x12 x13 x14 x15 x16 x17 x18 x19 x20 x21 x22 x23 : Sl} (hK : ∀ e, Ik ns e → K e) :
    B13_law { nx := K, ct := K, bk := E.nx, rt := E.rt } [.fz (.scr ns), .fz .cup, x2, x3, x4, x5, x6, .fz (.str s), .fz (.lst ((trailE e0 s).map tD)), x9, x10, x11, x12, x13, x14, x15, x16, x17, x18, x19, x20, x21, x22, x23] := by
  have cb := co_bnd (bE_all hl (trail_end s))
  simp only [B13_law, n_eVar, n_eVarB, varQ_fz, varB_fz, varB_ow, n_eC, n_eCall, n_aCons, n_aNil, n_eBin, n_eUn, n_eTup, n_eLst, n_eIf, n_eAnd, n_eOr, n_eNot, n_eChain, n_tVal, n_tNot, n_tAnd, n_tOr, n_tTrue,
 n_sSeq, n_sIf, n_sNil, n_sRet, n_sExpr, n_sBreak, n_sCont, n_sSet, n_sSetO, n_sSetZ, n_sFrz, n_sFor, n_gN, pq2_e, n_sPar, n_sParFG, n_sParGF, n_sParFF, n_sP3, n_sP4, n_eTupR, n_eLstR, n_eRevT, q_revT, n_sAsg, n_gTn_t, n_gTn_k, n_gsCons, n_gsNil, n_eLC, n_iSeq, n_seq_s, n_seq_l, n_seq_t, n_seq_k,
 rq1_e, rq2_e, n_iRng1m, n_iRng2m, n_eSl, n_oNone, n_oSome, n_eMeth, n_eRev, apQ_e, n_sAppend, n_sAug, n_fnM, n_ret, n_ask, n_dTuple, cif_t, cif_f, isB_bl, isI_int, optP_s, hasT,
 getS, setS, frzS, startE, slK, wipeE, put0, put1, put2, put3, q_add_i, q_add_s, q_add_t, q_add_l, q_sub, q_mul_i, q_mul_s, q_mod, q_neg, q_lt, q_le, q_gt, q_ge, q_eq_i, q_ne_i, q_eq_s, q_ne_s, q_is_bb, q_is_bn, q_is_in, q_is_sn, q_is_tn, q_is_nn, q_isn_bb, q_isn_bn, q_isn_in, q_isn_sn, q_isn_tn, q_isn_nn,
 q_it_l, q_it_t, q_it_k, q_it_s, at0, at1, at2, at3, atm1_1, atm1_2, atm1_a, q_len_s, q_len_l, q_len_t, q_isi, q_int, q_str, ty_int, ty_str, ty_bl, ty_lst, ty_tup, ty_kt, ty_non, isiT, q_sl_s, q_sl_t, q_sl_l,
 n_iZipU, n_iEnU, eqU_l, zqU_ll, zqU_lt, zqU_ls, eqU_t, zqU_tl, zqU_tt, zqU_ts, eqU_s, zqU_sl, zqU_st, zqU_ss, eqU_k,
 List.map_cons, List.map_nil, List.length_cons, List.length_nil, List.cons_append, List.nil_append, List.append_nil, List.replicate_zero, List.replicate_succ, Nat.reduceAdd, Nat.reduceSub, Nat.reduceEqDiff, Nat.reduceLeDiff, Int.reduceAdd, Int.reduceSub, Int.reduceMul, Int.reduceMod, Int.reduceNeg, Int.reduceLT, Int.reduceLE, Int.reduceBEq, decide_true, decide_false, Bool.not_true, Bool.not_false, true_and, and_true, Nat.zero_add]
  refine sp_cell_of hl hs fun v w h1 h2 h3 h4 => ?_
  rw [atD_last (x := tD (endE e0 s)) (by rw [List.getLast?_map, trail_last]; rfl), optP_s]
  simp only [tD_eq, n_eVar, n_eVarB, varQ_fz, varB_fz, varB_ow, n_eC, n_eCall, n_aCons, n_aNil, n_eBin, n_eUn, n_eTup, n_eLst, n_eIf, n_eAnd, n_eOr, n_eNot, n_eChain, n_tVal, n_tNot, n_tAnd, n_tOr, n_tTrue,
 n_sSeq, n_sIf, n_sNil, n_sRet, n_sExpr, n_sBreak, n_sCont, n_sSet, n_sSetO, n_sSetZ, n_sFrz, n_sFor, n_gN, pq2_e, n_sPar, n_sParFG, n_sParGF, n_sParFF, n_sP3, n_sP4, n_eTupR, n_eLstR, n_eRevT, q_revT, n_sAsg, n_gTn_t, n_gTn_k, n_gsCons, n_gsNil, n_eLC, n_iSeq, n_seq_s, n_seq_l, n_seq_t, n_seq_k,
 rq1_e, rq2_e, n_iRng1m, n_iRng2m, n_eSl, n_oNone, n_oSome, n_eMeth, n_eRev, apQ_e, n_sAppend, n_sAug, n_fnM, n_ret, n_ask, n_dTuple, cif_t, cif_f, isB_bl, isI_int, optP_s, hasT,
 getS, setS, frzS, startE, slK, wipeE, put0, put1, put2, put3, q_add_i, q_add_s, q_add_t, q_add_l, q_sub, q_mul_i, q_mul_s, q_mod, q_neg, q_lt, q_le, q_gt, q_ge, q_eq_i, q_ne_i, q_eq_s, q_ne_s, q_is_bb, q_is_bn, q_is_in, q_is_sn, q_is_tn, q_is_nn, q_isn_bb, q_isn_bn, q_isn_in, q_isn_sn, q_isn_tn, q_isn_nn,
 q_it_l, q_it_t, q_it_k, q_it_s, at0, at1, at2, at3, atm1_1, atm1_2, atm1_a, q_len_s, q_len_l, q_len_t, q_isi, q_int, q_str, ty_int, ty_str, ty_bl, ty_lst, ty_tup, ty_kt, ty_non, isiT, q_sl_s, q_sl_t, q_sl_l,
 n_iZipU, n_iEnU, eqU_l, zqU_ll, zqU_lt, zqU_ls, eqU_t, zqU_tl, zqU_tt, zqU_ts, eqU_s, zqU_sl, zqU_st, zqU_ss, eqU_k,
 List.map_cons, List.map_nil, List.length_cons, List.length_nil, List.cons_append, List.nil_append, List.append_nil, List.replicate_zero, List.replicate_succ, Nat.reduceAdd, Nat.reduceSub, Nat.reduceEqDiff, Nat.reduceLeDiff, Int.reduceAdd, Int.reduceSub, Int.reduceMul, Int.reduceMod, Int.reduceNeg, Int.reduceLT, Int.reduceLE, Int.reduceBEq, decide_true, decide_false, Bool.not_true, Bool.not_false, true_and, and_true, Nat.zero_add]
  refine sp_whole_of (by omega) (by omega) (by omega) (by omega) fun v2 g1 g2 => ?_
  refine sp_whole_of (by omega) (by omega) (by omega) (by omega) fun w2 g3 g4 => ⟨(show 2 ≤ lim by decide), ?_⟩
  rw [whole_uniq h1 h2 g1 g2, whole_uniq h3 h4 g3 g4]
  refine sp_law_same (by simp [smD, smD_int, lim]) ?_
  try simp only [n_eVar, n_eVarB, varQ_fz, varB_fz, varB_ow, n_eC, n_eCall, n_aCons, n_aNil, n_eBin, n_eUn, n_eTup, n_eLst, n_eIf, n_eAnd, n_eOr, n_eNot, n_eChain, n_tVal, n_tNot, n_tAnd, n_tOr, n_tTrue,
 n_sSeq, n_sIf, n_sNil, n_sRet, n_sExpr, n_sBreak, n_sCont, n_sSet, n_sSetO, n_sSetZ, n_sFrz, n_sFor, n_gN, pq2_e, n_sPar, n_sParFG, n_sParGF, n_sParFF, n_sP3, n_sP4, n_eTupR, n_eLstR, n_eRevT, q_revT, n_sAsg, n_gTn_t, n_gTn_k, n_gsCons, n_gsNil, n_eLC, n_iSeq, n_seq_s, n_seq_l, n_seq_t, n_seq_k,
 rq1_e, rq2_e, n_iRng1m, n_iRng2m, n_eSl, n_oNone, n_oSome, n_eMeth, n_eRev, apQ_e, n_sAppend, n_sAug, n_fnM, n_ret, n_ask, n_dTuple, cif_t, cif_f, isB_bl, isI_int, optP_s, hasT,
 getS, setS, frzS, startE, slK, wipeE, put0, put1, put2, put3, q_add_i, q_add_s, q_add_t, q_add_l, q_sub, q_mul_i, q_mul_s, q_mod, q_neg, q_lt, q_le, q_gt, q_ge, q_eq_i, q_ne_i, q_eq_s, q_ne_s, q_is_bb, q_is_bn, q_is_in, q_is_sn, q_is_tn, q_is_nn, q_isn_bb, q_isn_bn, q_isn_in, q_isn_sn, q_isn_tn, q_isn_nn,
 q_it_l, q_it_t, q_it_k, q_it_s, at0, at1, at2, at3, atm1_1, atm1_2, atm1_a, q_len_s, q_len_l, q_len_t, q_isi, q_int, q_str, ty_int, ty_str, ty_bl, ty_lst, ty_tup, ty_kt, ty_non, isiT, q_sl_s, q_sl_t, q_sl_l,
 n_iZipU, n_iEnU, eqU_l, zqU_ll, zqU_lt, zqU_ls, eqU_t, zqU_tl, zqU_tt, zqU_ts, eqU_s, zqU_sl, zqU_st, zqU_ss, eqU_k,
 List.map_cons, List.map_nil, List.length_cons, List.length_nil, List.cons_append, List.nil_append, List.append_nil, List.replicate_zero, List.replicate_succ, Nat.reduceAdd, Nat.reduceSub, Nat.reduceEqDiff, Nat.reduceLeDiff, Int.reduceAdd, Int.reduceSub, Int.reduceMul, Int.reduceMod, Int.reduceNeg, Int.reduceLT, Int.reduceLE, Int.reduceBEq, decide_true, decide_false, Bool.not_true, Bool.not_false, true_and, and_true, Nat.zero_add]
  exact hK _ ⟨_, _, _, _, _, _, _, _, _, _, _, _, _, _, _, _, _, _, _, _, _, _, rfl⟩
theorem turnD {s : List Nat} (hl : s.length ≤ 120) (hs : s.all isPc = true) {K : Env → Prop} {x2 x3 x4 x5 x6 x9 x10 x11 x12 x13 x14 x16 x17 x18 x19 x20 x21 x22 x23 : Sl} (hK : ∀ e, Ik ns e → K e) :
    B16_law { nx := K, ct := K, bk := E.nx, rt := E.rt } [.fz (.scr ns), .fz .cup, x2, x3, x4, x5, x6, .fz (.str s), .fz (.lst ((trailE e0 s).map tD)), x9, x10, x11, x12, x13, x14, .ow (.lst (((trailE e0 s).map sqE).map prD2)), x16, x17, x18, x19, x20, x21, x22, x23] := by
  have ln : (((trailE e0 s).map sqE).map prD2).length ≤ lim := by rw [List.length_map, List.length_map, trail_len]; simp only [lim]; omega
  have bq : ∀ x ∈ (trailE e0 s).map sqE, -600000 ≤ x.1 ∧ x.1 ≤ 600000 ∧ -600000 ≤ x.2 ∧ x.2 ≤ 600000 := fun x hx => by
    obtain ⟨e, he, rfl⟩ := List.mem_map.mp hx
    exact sq_bE (bE_all hl he)
  simp only [B16_law, n_eVar, n_eVarB, varQ_fz, varB_fz, varB_ow, n_eC, n_eCall, n_aCons, n_aNil, n_eBin, n_eUn, n_eTup, n_eLst, n_eIf, n_eAnd, n_eOr, n_eNot, n_eChain, n_tVal, n_tNot, n_tAnd, n_tOr, n_tTrue,
 n_sSeq, n_sIf, n_sNil, n_sRet, n_sExpr, n_sBreak, n_sCont, n_sSet, n_sSetO, n_sSetZ, n_sFrz, n_sFor, n_gN, pq2_e, n_sPar, n_sParFG, n_sParGF, n_sParFF, n_sP3, n_sP4, n_eTupR, n_eLstR, n_eRevT, q_revT, n_sAsg, n_gTn_t, n_gTn_k, n_gsCons, n_gsNil, n_eLC, n_iSeq, n_seq_s, n_seq_l, n_seq_t, n_seq_k,
 rq1_e, rq2_e, n_iRng1m, n_iRng2m, n_eSl, n_oNone, n_oSome, n_eMeth, n_eRev, apQ_e, n_sAppend, n_sAug, n_fnM, n_ret, n_ask, n_dTuple, cif_t, cif_f, isB_bl, isI_int, optP_s, hasT,
 getS, setS, frzS, startE, slK, wipeE, put0, put1, put2, put3, q_add_i, q_add_s, q_add_t, q_add_l, q_sub, q_mul_i, q_mul_s, q_mod, q_neg, q_lt, q_le, q_gt, q_ge, q_eq_i, q_ne_i, q_eq_s, q_ne_s, q_is_bb, q_is_bn, q_is_in, q_is_sn, q_is_tn, q_is_nn, q_isn_bb, q_isn_bn, q_isn_in, q_isn_sn, q_isn_tn, q_isn_nn,
 q_it_l, q_it_t, q_it_k, q_it_s, at0, at1, at2, at3, atm1_1, atm1_2, atm1_a, q_len_s, q_len_l, q_len_t, q_isi, q_int, q_str, ty_int, ty_str, ty_bl, ty_lst, ty_tup, ty_kt, ty_non, isiT, q_sl_s, q_sl_t, q_sl_l,
 n_iZipU, n_iEnU, eqU_l, zqU_ll, zqU_lt, zqU_ls, eqU_t, zqU_tl, zqU_tt, zqU_ts, eqU_s, zqU_sl, zqU_st, zqU_ss, eqU_k,
 List.map_cons, List.map_nil, List.length_cons, List.length_nil, List.cons_append, List.nil_append, List.append_nil, List.replicate_zero, List.replicate_succ, Nat.reduceAdd, Nat.reduceSub, Nat.reduceEqDiff, Nat.reduceLeDiff, Int.reduceAdd, Int.reduceSub, Int.reduceMul, Int.reduceMod, Int.reduceNeg, Int.reduceLT, Int.reduceLE, Int.reduceBEq, decide_true, decide_false, Bool.not_true, Bool.not_false, true_and, and_true, Nat.zero_add]
  refine sp_farthest hl hs fun j jl hj => ?_
  obtain ⟨m, hm⟩ : ∃ m, ((trailE e0 s).map sqE)[j]? = some m := ⟨_, List.getElem?_eq_getElem (by rw [List.length_map]; exact jl)⟩
  have bm := bq m (List.mem_of_getElem? hm)
  have atm : atD (((trailE e0 s).map sqE).map prD2) (j : Int) = some (prD2 m) := by
    rw [at_map (by rw [List.length_map]; exact jl)]
    have := List.getElem?_eq_getElem (l := (trailE e0 s).map sqE) (i := j) (by rw [List.length_map]; exact jl)
    rw [hm] at this
    injection this with this
    rw [← this]
  simp only [B15_law, n_eVar, n_eVarB, varQ_fz, varB_fz, varB_ow, n_eC, n_eCall, n_aCons, n_aNil, n_eBin, n_eUn, n_eTup, n_eLst, n_eIf, n_eAnd, n_eOr, n_eNot, n_eChain, n_tVal, n_tNot, n_tAnd, n_tOr, n_tTrue,
 n_sSeq, n_sIf, n_sNil, n_sRet, n_sExpr, n_sBreak, n_sCont, n_sSet, n_sSetO, n_sSetZ, n_sFrz, n_sFor, n_gN, pq2_e, n_sPar, n_sParFG, n_sParGF, n_sParFF, n_sP3, n_sP4, n_eTupR, n_eLstR, n_eRevT, q_revT, n_sAsg, n_gTn_t, n_gTn_k, n_gsCons, n_gsNil, n_eLC, n_iSeq, n_seq_s, n_seq_l, n_seq_t, n_seq_k,
 rq1_e, rq2_e, n_iRng1m, n_iRng2m, n_eSl, n_oNone, n_oSome, n_eMeth, n_eRev, apQ_e, n_sAppend, n_sAug, n_fnM, n_ret, n_ask, n_dTuple, cif_t, cif_f, isB_bl, isI_int, optP_s, hasT,
 getS, setS, frzS, startE, slK, wipeE, put0, put1, put2, put3, q_add_i, q_add_s, q_add_t, q_add_l, q_sub, q_mul_i, q_mul_s, q_mod, q_neg, q_lt, q_le, q_gt, q_ge, q_eq_i, q_ne_i, q_eq_s, q_ne_s, q_is_bb, q_is_bn, q_is_in, q_is_sn, q_is_tn, q_is_nn, q_isn_bb, q_isn_bn, q_isn_in, q_isn_sn, q_isn_tn, q_isn_nn,
 q_it_l, q_it_t, q_it_k, q_it_s, at0, at1, at2, at3, atm1_1, atm1_2, atm1_a, q_len_s, q_len_l, q_len_t, q_isi, q_int, q_str, ty_int, ty_str, ty_bl, ty_lst, ty_tup, ty_kt, ty_non, isiT, q_sl_s, q_sl_t, q_sl_l,
 n_iZipU, n_iEnU, eqU_l, zqU_ll, zqU_lt, zqU_ls, eqU_t, zqU_tl, zqU_tt, zqU_ts, eqU_s, zqU_sl, zqU_st, zqU_ss, eqU_k,
 List.map_cons, List.map_nil, List.length_cons, List.length_nil, List.cons_append, List.nil_append, List.append_nil, List.replicate_zero, List.replicate_succ, Nat.reduceAdd, Nat.reduceSub, Nat.reduceEqDiff, Nat.reduceLeDiff, Int.reduceAdd, Int.reduceSub, Int.reduceMul, Int.reduceMod, Int.reduceNeg, Int.reduceLT, Int.reduceLE, Int.reduceBEq, decide_true, decide_false, Bool.not_true, Bool.not_false, true_and, and_true, Nat.zero_add]
  refine sp_far_squared hl hs ?_
  rw [atD_last (x := prD2 (sqE (endE e0 s))) (by rw [List.getLast?_map, List.getLast?_map, trail_last]; rfl), optP_s]
  refine sp_law_same (by simp [smD, smD_int, lim]) ?_
  try simp only [n_eVar, n_eVarB, varQ_fz, varB_fz, varB_ow, n_eC, n_eCall, n_aCons, n_aNil, n_eBin, n_eUn, n_eTup, n_eLst, n_eIf, n_eAnd, n_eOr, n_eNot, n_eChain, n_tVal, n_tNot, n_tAnd, n_tOr, n_tTrue,
 n_sSeq, n_sIf, n_sNil, n_sRet, n_sExpr, n_sBreak, n_sCont, n_sSet, n_sSetO, n_sSetZ, n_sFrz, n_sFor, n_gN, pq2_e, n_sPar, n_sParFG, n_sParGF, n_sParFF, n_sP3, n_sP4, n_eTupR, n_eLstR, n_eRevT, q_revT, n_sAsg, n_gTn_t, n_gTn_k, n_gsCons, n_gsNil, n_eLC, n_iSeq, n_seq_s, n_seq_l, n_seq_t, n_seq_k,
 rq1_e, rq2_e, n_iRng1m, n_iRng2m, n_eSl, n_oNone, n_oSome, n_eMeth, n_eRev, apQ_e, n_sAppend, n_sAug, n_fnM, n_ret, n_ask, n_dTuple, cif_t, cif_f, isB_bl, isI_int, optP_s, hasT,
 getS, setS, frzS, startE, slK, wipeE, put0, put1, put2, put3, q_add_i, q_add_s, q_add_t, q_add_l, q_sub, q_mul_i, q_mul_s, q_mod, q_neg, q_lt, q_le, q_gt, q_ge, q_eq_i, q_ne_i, q_eq_s, q_ne_s, q_is_bb, q_is_bn, q_is_in, q_is_sn, q_is_tn, q_is_nn, q_isn_bb, q_isn_bn, q_isn_in, q_isn_sn, q_isn_tn, q_isn_nn,
 q_it_l, q_it_t, q_it_k, q_it_s, at0, at1, at2, at3, atm1_1, atm1_2, atm1_a, q_len_s, q_len_l, q_len_t, q_isi, q_int, q_str, ty_int, ty_str, ty_bl, ty_lst, ty_tup, ty_kt, ty_non, isiT, q_sl_s, q_sl_t, q_sl_l,
 n_iZipU, n_iEnU, eqU_l, zqU_ll, zqU_lt, zqU_ls, eqU_t, zqU_tl, zqU_tt, zqU_ts, eqU_s, zqU_sl, zqU_st, zqU_ss, eqU_k,
 List.map_cons, List.map_nil, List.length_cons, List.length_nil, List.cons_append, List.nil_append, List.append_nil, List.replicate_zero, List.replicate_succ, Nat.reduceAdd, Nat.reduceSub, Nat.reduceEqDiff, Nat.reduceLeDiff, Int.reduceAdd, Int.reduceSub, Int.reduceMul, Int.reduceMod, Int.reduceNeg, Int.reduceLT, Int.reduceLE, Int.reduceBEq, decide_true, decide_false, Bool.not_true, Bool.not_false, true_and, and_true, Nat.zero_add]
  refine ⟨ln, ?_⟩
  refine lc_each prD2 (fun _ => false) prD2 _ (fun x hx K K' h1 h2 => ?_) ?_
  · have bx := bq x hx
    obtain ⟨i, hi⟩ := List.getElem?_of_mem hx
    have px := (hj i x m hi hm).1
    simp only [atm, n_eVar, n_eVarB, varQ_fz, varB_fz, varB_ow, n_eC, n_eCall, n_aCons, n_aNil, n_eBin, n_eUn, n_eTup, n_eLst, n_eIf, n_eAnd, n_eOr, n_eNot, n_eChain, n_tVal, n_tNot, n_tAnd, n_tOr, n_tTrue,
 n_sSeq, n_sIf, n_sNil, n_sRet, n_sExpr, n_sBreak, n_sCont, n_sSet, n_sSetO, n_sSetZ, n_sFrz, n_sFor, n_gN, pq2_e, n_sPar, n_sParFG, n_sParGF, n_sParFF, n_sP3, n_sP4, n_eTupR, n_eLstR, n_eRevT, q_revT, n_sAsg, n_gTn_t, n_gTn_k, n_gsCons, n_gsNil, n_eLC, n_iSeq, n_seq_s, n_seq_l, n_seq_t, n_seq_k,
 rq1_e, rq2_e, n_iRng1m, n_iRng2m, n_eSl, n_oNone, n_oSome, n_eMeth, n_eRev, apQ_e, n_sAppend, n_sAug, n_fnM, n_ret, n_ask, n_dTuple, cif_t, cif_f, isB_bl, isI_int, optP_s, hasT,
 getS, setS, frzS, startE, slK, wipeE, put0, put1, put2, put3, q_add_i, q_add_s, q_add_t, q_add_l, q_sub, q_mul_i, q_mul_s, q_mod, q_neg, q_lt, q_le, q_gt, q_ge, q_eq_i, q_ne_i, q_eq_s, q_ne_s, q_is_bb, q_is_bn, q_is_in, q_is_sn, q_is_tn, q_is_nn, q_isn_bb, q_isn_bn, q_isn_in, q_isn_sn, q_isn_tn, q_isn_nn,
 q_it_l, q_it_t, q_it_k, q_it_s, at0, at1, at2, at3, atm1_1, atm1_2, atm1_a, q_len_s, q_len_l, q_len_t, q_isi, q_int, q_str, ty_int, ty_str, ty_bl, ty_lst, ty_tup, ty_kt, ty_non, isiT, q_sl_s, q_sl_t, q_sl_l,
 n_iZipU, n_iEnU, eqU_l, zqU_ll, zqU_lt, zqU_ls, eqU_t, zqU_tl, zqU_tt, zqU_ts, eqU_s, zqU_sl, zqU_st, zqU_ss, eqU_k,
 List.map_cons, List.map_nil, List.length_cons, List.length_nil, List.cons_append, List.nil_append, List.append_nil, List.replicate_zero, List.replicate_succ, Nat.reduceAdd, Nat.reduceSub, Nat.reduceEqDiff, Nat.reduceLeDiff, Int.reduceAdd, Int.reduceSub, Int.reduceMul, Int.reduceMod, Int.reduceNeg, Int.reduceLT, Int.reduceLE, Int.reduceBEq, decide_true, decide_false, Bool.not_true, Bool.not_false, true_and, and_true, Nat.zero_add]
    refine sp_law_less (by omega) (by omega) ?_
    rw [sg_lo px]
    exact h2 rfl
  rw [List.filter_eq_nil_iff.mpr (by simp)]
  refine ⟨(show 0 ≤ lim by decide), ?_⟩
  refine ne_nil ?_
  try simp only [n_eVar, n_eVarB, varQ_fz, varB_fz, varB_ow, n_eC, n_eCall, n_aCons, n_aNil, n_eBin, n_eUn, n_eTup, n_eLst, n_eIf, n_eAnd, n_eOr, n_eNot, n_eChain, n_tVal, n_tNot, n_tAnd, n_tOr, n_tTrue,
 n_sSeq, n_sIf, n_sNil, n_sRet, n_sExpr, n_sBreak, n_sCont, n_sSet, n_sSetO, n_sSetZ, n_sFrz, n_sFor, n_gN, pq2_e, n_sPar, n_sParFG, n_sParGF, n_sParFF, n_sP3, n_sP4, n_eTupR, n_eLstR, n_eRevT, q_revT, n_sAsg, n_gTn_t, n_gTn_k, n_gsCons, n_gsNil, n_eLC, n_iSeq, n_seq_s, n_seq_l, n_seq_t, n_seq_k,
 rq1_e, rq2_e, n_iRng1m, n_iRng2m, n_eSl, n_oNone, n_oSome, n_eMeth, n_eRev, apQ_e, n_sAppend, n_sAug, n_fnM, n_ret, n_ask, n_dTuple, cif_t, cif_f, isB_bl, isI_int, optP_s, hasT,
 getS, setS, frzS, startE, slK, wipeE, put0, put1, put2, put3, q_add_i, q_add_s, q_add_t, q_add_l, q_sub, q_mul_i, q_mul_s, q_mod, q_neg, q_lt, q_le, q_gt, q_ge, q_eq_i, q_ne_i, q_eq_s, q_ne_s, q_is_bb, q_is_bn, q_is_in, q_is_sn, q_is_tn, q_is_nn, q_isn_bb, q_isn_bn, q_isn_in, q_isn_sn, q_isn_tn, q_isn_nn,
 q_it_l, q_it_t, q_it_k, q_it_s, at0, at1, at2, at3, atm1_1, atm1_2, atm1_a, q_len_s, q_len_l, q_len_t, q_isi, q_int, q_str, ty_int, ty_str, ty_bl, ty_lst, ty_tup, ty_kt, ty_non, isiT, q_sl_s, q_sl_t, q_sl_l,
 n_iZipU, n_iEnU, eqU_l, zqU_ll, zqU_lt, zqU_ls, eqU_t, zqU_tl, zqU_tt, zqU_ts, eqU_s, zqU_sl, zqU_st, zqU_ss, eqU_k,
 List.map_cons, List.map_nil, List.length_cons, List.length_nil, List.cons_append, List.nil_append, List.append_nil, List.replicate_zero, List.replicate_succ, Nat.reduceAdd, Nat.reduceSub, Nat.reduceEqDiff, Nat.reduceLeDiff, Int.reduceAdd, Int.reduceSub, Int.reduceMul, Int.reduceMod, Int.reduceNeg, Int.reduceLT, Int.reduceLE, Int.reduceBEq, decide_true, decide_false, Bool.not_true, Bool.not_false, true_and, and_true, Nat.zero_add]
  simp only [B14_law, n_eVar, n_eVarB, varQ_fz, varB_fz, varB_ow, n_eC, n_eCall, n_aCons, n_aNil, n_eBin, n_eUn, n_eTup, n_eLst, n_eIf, n_eAnd, n_eOr, n_eNot, n_eChain, n_tVal, n_tNot, n_tAnd, n_tOr, n_tTrue,
 n_sSeq, n_sIf, n_sNil, n_sRet, n_sExpr, n_sBreak, n_sCont, n_sSet, n_sSetO, n_sSetZ, n_sFrz, n_sFor, n_gN, pq2_e, n_sPar, n_sParFG, n_sParGF, n_sParFF, n_sP3, n_sP4, n_eTupR, n_eLstR, n_eRevT, q_revT, n_sAsg, n_gTn_t, n_gTn_k, n_gsCons, n_gsNil, n_eLC, n_iSeq, n_seq_s, n_seq_l, n_seq_t, n_seq_k,
 rq1_e, rq2_e, n_iRng1m, n_iRng2m, n_eSl, n_oNone, n_oSome, n_eMeth, n_eRev, apQ_e, n_sAppend, n_sAug, n_fnM, n_ret, n_ask, n_dTuple, cif_t, cif_f, isB_bl, isI_int, optP_s, hasT,
 getS, setS, frzS, startE, slK, wipeE, put0, put1, put2, put3, q_add_i, q_add_s, q_add_t, q_add_l, q_sub, q_mul_i, q_mul_s, q_mod, q_neg, q_lt, q_le, q_gt, q_ge, q_eq_i, q_ne_i, q_eq_s, q_ne_s, q_is_bb, q_is_bn, q_is_in, q_is_sn, q_is_tn, q_is_nn, q_isn_bb, q_isn_bn, q_isn_in, q_isn_sn, q_isn_tn, q_isn_nn,
 q_it_l, q_it_t, q_it_k, q_it_s, at0, at1, at2, at3, atm1_1, atm1_2, atm1_a, q_len_s, q_len_l, q_len_t, q_isi, q_int, q_str, ty_int, ty_str, ty_bl, ty_lst, ty_tup, ty_kt, ty_non, isiT, q_sl_s, q_sl_t, q_sl_l,
 n_iZipU, n_iEnU, eqU_l, zqU_ll, zqU_lt, zqU_ls, eqU_t, zqU_tl, zqU_tt, zqU_ts, eqU_s, zqU_sl, zqU_st, zqU_ss, eqU_k,
 List.map_cons, List.map_nil, List.length_cons, List.length_nil, List.cons_append, List.nil_append, List.append_nil, List.replicate_zero, List.replicate_succ, Nat.reduceAdd, Nat.reduceSub, Nat.reduceEqDiff, Nat.reduceLeDiff, Int.reduceAdd, Int.reduceSub, Int.reduceMul, Int.reduceMod, Int.reduceNeg, Int.reduceLT, Int.reduceLE, Int.reduceBEq, decide_true, decide_false, Bool.not_true, Bool.not_false, true_and, and_true, Nat.zero_add]
  rw [cut_take (by omega) (by rw [List.length_map, List.length_map]; omega), Int.toNat_natCast, ← List.map_take]
  refine ⟨by rw [List.length_map, List.length_take, List.length_map, trail_len]; simp only [lim]; omega, ?_⟩
  refine lc_each prD2 (fun _ => false) prD2 _ (fun x hx K K' h1 h2 => ?_) ?_
  · have bx := bq x (List.mem_of_mem_take hx)
    obtain ⟨i, hi⟩ := List.getElem?_of_mem hx
    rw [List.getElem?_take] at hi
    by_cases ij : i < j
    · rw [if_pos ij] at hi
      obtain ⟨px, pn⟩ := hj i x m hi hm
      have ne := pn ij
      have nz : ¬ (m.1 - x.1 = 0 ∧ m.2 - x.2 = 0) := fun z => ne (Prod.ext (by omega) (by omega))
      have e1 := sg_one nz px
      have e2 := sg_neg (a := m.1 - x.1) (b := m.2 - x.2)
      rw [show -(m.1 - x.1) = x.1 - m.1 by omega, show -(m.2 - x.2) = x.2 - m.2 by omega, e1] at e2
      simp only [atm, n_eVar, n_eVarB, varQ_fz, varB_fz, varB_ow, n_eC, n_eCall, n_aCons, n_aNil, n_eBin, n_eUn, n_eTup, n_eLst, n_eIf, n_eAnd, n_eOr, n_eNot, n_eChain, n_tVal, n_tNot, n_tAnd, n_tOr, n_tTrue,
 n_sSeq, n_sIf, n_sNil, n_sRet, n_sExpr, n_sBreak, n_sCont, n_sSet, n_sSetO, n_sSetZ, n_sFrz, n_sFor, n_gN, pq2_e, n_sPar, n_sParFG, n_sParGF, n_sParFF, n_sP3, n_sP4, n_eTupR, n_eLstR, n_eRevT, q_revT, n_sAsg, n_gTn_t, n_gTn_k, n_gsCons, n_gsNil, n_eLC, n_iSeq, n_seq_s, n_seq_l, n_seq_t, n_seq_k,
 rq1_e, rq2_e, n_iRng1m, n_iRng2m, n_eSl, n_oNone, n_oSome, n_eMeth, n_eRev, apQ_e, n_sAppend, n_sAug, n_fnM, n_ret, n_ask, n_dTuple, cif_t, cif_f, isB_bl, isI_int, optP_s, hasT,
 getS, setS, frzS, startE, slK, wipeE, put0, put1, put2, put3, q_add_i, q_add_s, q_add_t, q_add_l, q_sub, q_mul_i, q_mul_s, q_mod, q_neg, q_lt, q_le, q_gt, q_ge, q_eq_i, q_ne_i, q_eq_s, q_ne_s, q_is_bb, q_is_bn, q_is_in, q_is_sn, q_is_tn, q_is_nn, q_isn_bb, q_isn_bn, q_isn_in, q_isn_sn, q_isn_tn, q_isn_nn,
 q_it_l, q_it_t, q_it_k, q_it_s, at0, at1, at2, at3, atm1_1, atm1_2, atm1_a, q_len_s, q_len_l, q_len_t, q_isi, q_int, q_str, ty_int, ty_str, ty_bl, ty_lst, ty_tup, ty_kt, ty_non, isiT, q_sl_s, q_sl_t, q_sl_l,
 n_iZipU, n_iEnU, eqU_l, zqU_ll, zqU_lt, zqU_ls, eqU_t, zqU_tl, zqU_tt, zqU_ts, eqU_s, zqU_sl, zqU_st, zqU_ss, eqU_k,
 List.map_cons, List.map_nil, List.length_cons, List.length_nil, List.cons_append, List.nil_append, List.append_nil, List.replicate_zero, List.replicate_succ, Nat.reduceAdd, Nat.reduceSub, Nat.reduceEqDiff, Nat.reduceLeDiff, Int.reduceAdd, Int.reduceSub, Int.reduceMul, Int.reduceMod, Int.reduceNeg, Int.reduceLT, Int.reduceLE, Int.reduceBEq, decide_true, decide_false, Bool.not_true, Bool.not_false, true_and, and_true, Nat.zero_add]
      refine sp_law_less (by omega) (by omega) ?_
      rw [e2]
      exact h2 rfl
    · rw [if_neg ij] at hi; cases hi
  rw [List.filter_eq_nil_iff.mpr (by simp)]
  refine ⟨(show 0 ≤ lim by decide), ?_⟩
  refine ne_nil ?_
  try simp only [n_eVar, n_eVarB, varQ_fz, varB_fz, varB_ow, n_eC, n_eCall, n_aCons, n_aNil, n_eBin, n_eUn, n_eTup, n_eLst, n_eIf, n_eAnd, n_eOr, n_eNot, n_eChain, n_tVal, n_tNot, n_tAnd, n_tOr, n_tTrue,
 n_sSeq, n_sIf, n_sNil, n_sRet, n_sExpr, n_sBreak, n_sCont, n_sSet, n_sSetO, n_sSetZ, n_sFrz, n_sFor, n_gN, pq2_e, n_sPar, n_sParFG, n_sParGF, n_sParFF, n_sP3, n_sP4, n_eTupR, n_eLstR, n_eRevT, q_revT, n_sAsg, n_gTn_t, n_gTn_k, n_gsCons, n_gsNil, n_eLC, n_iSeq, n_seq_s, n_seq_l, n_seq_t, n_seq_k,
 rq1_e, rq2_e, n_iRng1m, n_iRng2m, n_eSl, n_oNone, n_oSome, n_eMeth, n_eRev, apQ_e, n_sAppend, n_sAug, n_fnM, n_ret, n_ask, n_dTuple, cif_t, cif_f, isB_bl, isI_int, optP_s, hasT,
 getS, setS, frzS, startE, slK, wipeE, put0, put1, put2, put3, q_add_i, q_add_s, q_add_t, q_add_l, q_sub, q_mul_i, q_mul_s, q_mod, q_neg, q_lt, q_le, q_gt, q_ge, q_eq_i, q_ne_i, q_eq_s, q_ne_s, q_is_bb, q_is_bn, q_is_in, q_is_sn, q_is_tn, q_is_nn, q_isn_bb, q_isn_bn, q_isn_in, q_isn_sn, q_isn_tn, q_isn_nn,
 q_it_l, q_it_t, q_it_k, q_it_s, at0, at1, at2, at3, atm1_1, atm1_2, atm1_a, q_len_s, q_len_l, q_len_t, q_isi, q_int, q_str, ty_int, ty_str, ty_bl, ty_lst, ty_tup, ty_kt, ty_non, isiT, q_sl_s, q_sl_t, q_sl_l,
 n_iZipU, n_iEnU, eqU_l, zqU_ll, zqU_lt, zqU_ls, eqU_t, zqU_tl, zqU_tt, zqU_ts, eqU_s, zqU_sl, zqU_st, zqU_ss, eqU_k,
 List.map_cons, List.map_nil, List.length_cons, List.length_nil, List.cons_append, List.nil_append, List.append_nil, List.replicate_zero, List.replicate_succ, Nat.reduceAdd, Nat.reduceSub, Nat.reduceEqDiff, Nat.reduceLeDiff, Int.reduceAdd, Int.reduceSub, Int.reduceMul, Int.reduceMod, Int.reduceNeg, Int.reduceLT, Int.reduceLE, Int.reduceBEq, decide_true, decide_false, Bool.not_true, Bool.not_false, true_and, and_true, Nat.zero_add]
  exact turnE hl hs hK
/-- squares, farthest, cells -/
theorem gt2 {e : E8} {i j : Nat} {env : Env} {Q : Env → Prop} : gTn 2 (gsCons (gN i) (gsCons (gN j) gsNil)) (lD e) env Q = Q (setS (setS env i (.fz (zD e.z))) j (.fz (.int e.w))) := propext ⟨fun h => h.2, fun h => ⟨rfl, h⟩⟩
theorem turnC {s : List Nat} (hl : s.length ≤ 120) (hs : s.all isPc = true) {K : Env → Prop} {x2 x3 x4 x5 x6 x9 x10 x11 x12 x13 x14 x15 x16 x17 x18 x19 x20 x21 x22 x23 : Sl} (hK : ∀ e, Ik ns e → K e) :
    B18_law { nx := K, ct := K, bk := E.nx, rt := E.rt } [.fz (.scr ns), .fz .cup, x2, x3, x4, x5, x6, .fz (.str s), .fz (.lst ((trailE e0 s).map tD)), x9, x10, x11, x12, x13, x14, x15, x16, x17, x18, x19, x20, x21, x22, x23] := by
  simp only [B18_law, n_eVar, n_eVarB, varQ_fz, varB_fz, varB_ow, n_eC, n_eCall, n_aCons, n_aNil, n_eBin, n_eUn, n_eTup, n_eLst, n_eIf, n_eAnd, n_eOr, n_eNot, n_eChain, n_tVal, n_tNot, n_tAnd, n_tOr, n_tTrue,
 n_sSeq, n_sIf, n_sNil, n_sRet, n_sExpr, n_sBreak, n_sCont, n_sSet, n_sSetO, n_sSetZ, n_sFrz, n_sFor, n_gN, pq2_e, n_sPar, n_sParFG, n_sParGF, n_sParFF, n_sP3, n_sP4, n_eTupR, n_eLstR, n_eRevT, q_revT, n_sAsg, n_gTn_t, n_gTn_k, n_gsCons, n_gsNil, n_eLC, n_iSeq, n_seq_s, n_seq_l, n_seq_t, n_seq_k,
 rq1_e, rq2_e, n_iRng1m, n_iRng2m, n_eSl, n_oNone, n_oSome, n_eMeth, n_eRev, apQ_e, n_sAppend, n_sAug, n_fnM, n_ret, n_ask, n_dTuple, cif_t, cif_f, isB_bl, isI_int, optP_s, hasT,
 getS, setS, frzS, startE, slK, wipeE, put0, put1, put2, put3, q_add_i, q_add_s, q_add_t, q_add_l, q_sub, q_mul_i, q_mul_s, q_mod, q_neg, q_lt, q_le, q_gt, q_ge, q_eq_i, q_ne_i, q_eq_s, q_ne_s, q_is_bb, q_is_bn, q_is_in, q_is_sn, q_is_tn, q_is_nn, q_isn_bb, q_isn_bn, q_isn_in, q_isn_sn, q_isn_tn, q_isn_nn,
 q_it_l, q_it_t, q_it_k, q_it_s, at0, at1, at2, at3, atm1_1, atm1_2, atm1_a, q_len_s, q_len_l, q_len_t, q_isi, q_int, q_str, ty_int, ty_str, ty_bl, ty_lst, ty_tup, ty_kt, ty_non, isiT, q_sl_s, q_sl_t, q_sl_l,
 n_iZipU, n_iEnU, eqU_l, zqU_ll, zqU_lt, zqU_ls, eqU_t, zqU_tl, zqU_tt, zqU_ts, eqU_s, zqU_sl, zqU_st, zqU_ss, eqU_k,
 List.map_cons, List.map_nil, List.length_cons, List.length_nil, List.cons_append, List.nil_append, List.append_nil, List.replicate_zero, List.replicate_succ, Nat.reduceAdd, Nat.reduceSub, Nat.reduceEqDiff, Nat.reduceLeDiff, Int.reduceAdd, Int.reduceSub, Int.reduceMul, Int.reduceMod, Int.reduceNeg, Int.reduceLT, Int.reduceLE, Int.reduceBEq, decide_true, decide_false, Bool.not_true, Bool.not_false, true_and, and_true, Nat.zero_add]
  refine ⟨(show 0 ≤ lim by decide), ?_⟩
  have ln : ((trailE e0 s).map tD).length ≤ lim := by rw [List.length_map, trail_len]; simp only [lim]; omega
  simp only [B17_law, n_eVar, n_eVarB, varQ_fz, varB_fz, varB_ow, n_eC, n_eCall, n_aCons, n_aNil, n_eBin, n_eUn, n_eTup, n_eLst, n_eIf, n_eAnd, n_eOr, n_eNot, n_eChain, n_tVal, n_tNot, n_tAnd, n_tOr, n_tTrue,
 n_sSeq, n_sIf, n_sNil, n_sRet, n_sExpr, n_sBreak, n_sCont, n_sSet, n_sSetO, n_sSetZ, n_sFrz, n_sFor, n_gN, pq2_e, n_sPar, n_sParFG, n_sParGF, n_sParFF, n_sP3, n_sP4, n_eTupR, n_eLstR, n_eRevT, q_revT, n_sAsg, n_gTn_t, n_gTn_k, n_gsCons, n_gsNil, n_eLC, n_iSeq, n_seq_s, n_seq_l, n_seq_t, n_seq_k,
 rq1_e, rq2_e, n_iRng1m, n_iRng2m, n_eSl, n_oNone, n_oSome, n_eMeth, n_eRev, apQ_e, n_sAppend, n_sAug, n_fnM, n_ret, n_ask, n_dTuple, cif_t, cif_f, isB_bl, isI_int, optP_s, hasT,
 getS, setS, frzS, startE, slK, wipeE, put0, put1, put2, put3, q_add_i, q_add_s, q_add_t, q_add_l, q_sub, q_mul_i, q_mul_s, q_mod, q_neg, q_lt, q_le, q_gt, q_ge, q_eq_i, q_ne_i, q_eq_s, q_ne_s, q_is_bb, q_is_bn, q_is_in, q_is_sn, q_is_tn, q_is_nn, q_isn_bb, q_isn_bn, q_isn_in, q_isn_sn, q_isn_tn, q_isn_nn,
 q_it_l, q_it_t, q_it_k, q_it_s, at0, at1, at2, at3, atm1_1, atm1_2, atm1_a, q_len_s, q_len_l, q_len_t, q_isi, q_int, q_str, ty_int, ty_str, ty_bl, ty_lst, ty_tup, ty_kt, ty_non, isiT, q_sl_s, q_sl_t, q_sl_l,
 n_iZipU, n_iEnU, eqU_l, zqU_ll, zqU_lt, zqU_ls, eqU_t, zqU_tl, zqU_tt, zqU_ts, eqU_s, zqU_sl, zqU_st, zqU_ss, eqU_k,
 List.map_cons, List.map_nil, List.length_cons, List.length_nil, List.cons_append, List.nil_append, List.append_nil, List.replicate_zero, List.replicate_succ, Nat.reduceAdd, Nat.reduceSub, Nat.reduceEqDiff, Nat.reduceLeDiff, Int.reduceAdd, Int.reduceSub, Int.reduceMul, Int.reduceMod, Int.reduceNeg, Int.reduceLT, Int.reduceLE, Int.reduceBEq, decide_true, decide_false, Bool.not_true, Bool.not_false, true_and, and_true, Nat.zero_add]
  refine forW_each tD (fun done rest env => ∃ x5 x16 x17 x18 : Sl, env = [.fz (.scr ns), .fz .cup, x2, x3, x4, x5, x6, .fz (.str s), .fz (.lst ((trailE e0 s).map tD)), x9, x10, x11, x12, x13, x14, .ow (.lst ((done.map sqE).map prD2)), x16, x17, x18, x19, x20, x21, x22, x23]) _ ⟨_, _, _, _, rfl⟩ ?_ ?_
  · rintro done e rest env K ed ⟨x5, x16, x17, x18, rfl⟩ hK
    have he : e ∈ trailE e0 s := by rw [ed]; simp
    have dl : done.length + 1 ≤ 121 := by
      have := congrArg List.length ed
      rw [trail_len, List.length_append, List.length_cons] at this
      omega
    obtain ⟨a, b, c, d, f, g, i, j⟩ := co_bnd (bE_all hl he)
    have s1 : small (rgt e).1 := sm_k (by omega) (by omega)
    have s2 : small (rgt e).2 := sm_k (by omega) (by omega)
    have s3 : small (upw e).1 := sm_k (by omega) (by omega)
    have s4 : small (upw e).2 := sm_k (by omega) (by omega)
    have s5 : small 2 := by unfold small; omega
    simp only [tD_eq, n_eVar, n_eVarB, varQ_fz, varB_fz, varB_ow, n_eC, n_eCall, n_aCons, n_aNil, n_eBin, n_eUn, n_eTup, n_eLst, n_eIf, n_eAnd, n_eOr, n_eNot, n_eChain, n_tVal, n_tNot, n_tAnd, n_tOr, n_tTrue,
 n_sSeq, n_sIf, n_sNil, n_sRet, n_sExpr, n_sBreak, n_sCont, n_sSet, n_sSetO, n_sSetZ, n_sFrz, n_sFor, n_gN, pq2_e, n_sPar, n_sParFG, n_sParGF, n_sParFF, n_sP3, n_sP4, n_eTupR, n_eLstR, n_eRevT, q_revT, n_sAsg, n_gTn_t, n_gTn_k, n_gsCons, n_gsNil, n_eLC, n_iSeq, n_seq_s, n_seq_l, n_seq_t, n_seq_k,
 rq1_e, rq2_e, n_iRng1m, n_iRng2m, n_eSl, n_oNone, n_oSome, n_eMeth, n_eRev, apQ_e, n_sAppend, n_sAug, n_fnM, n_ret, n_ask, n_dTuple, cif_t, cif_f, isB_bl, isI_int, optP_s, hasT,
 getS, setS, frzS, startE, slK, wipeE, put0, put1, put2, put3, q_add_i, q_add_s, q_add_t, q_add_l, q_sub, q_mul_i, q_mul_s, q_mod, q_neg, q_lt, q_le, q_gt, q_ge, q_eq_i, q_ne_i, q_eq_s, q_ne_s, q_is_bb, q_is_bn, q_is_in, q_is_sn, q_is_tn, q_is_nn, q_isn_bb, q_isn_bn, q_isn_in, q_isn_sn, q_isn_tn, q_isn_nn,
 q_it_l, q_it_t, q_it_k, q_it_s, at0, at1, at2, at3, atm1_1, atm1_2, atm1_a, q_len_s, q_len_l, q_len_t, q_isi, q_int, q_str, ty_int, ty_str, ty_bl, ty_lst, ty_tup, ty_kt, ty_non, isiT, q_sl_s, q_sl_t, q_sl_l,
 n_iZipU, n_iEnU, eqU_l, zqU_ll, zqU_lt, zqU_ls, eqU_t, zqU_tl, zqU_tt, zqU_ts, eqU_s, zqU_sl, zqU_st, zqU_ss, eqU_k,
 List.map_cons, List.map_nil, List.length_cons, List.length_nil, List.cons_append, List.nil_append, List.append_nil, List.replicate_zero, List.replicate_succ, Nat.reduceAdd, Nat.reduceSub, Nat.reduceEqDiff, Nat.reduceLeDiff, Int.reduceAdd, Int.reduceSub, Int.reduceMul, Int.reduceMod, Int.reduceNeg, Int.reduceLT, Int.reduceLE, Int.reduceBEq, decide_true, decide_false, Bool.not_true, Bool.not_false, true_and, and_true, Nat.zero_add]
    simp only [B12_law, n_eVar, n_eVarB, varQ_fz, varB_fz, varB_ow, n_eC, n_eCall, n_aCons, n_aNil, n_eBin, n_eUn, n_eTup, n_eLst, n_eIf, n_eAnd, n_eOr, n_eNot, n_eChain, n_tVal, n_tNot, n_tAnd, n_tOr, n_tTrue,
 n_sSeq, n_sIf, n_sNil, n_sRet, n_sExpr, n_sBreak, n_sCont, n_sSet, n_sSetO, n_sSetZ, n_sFrz, n_sFor, n_gN, pq2_e, n_sPar, n_sParFG, n_sParGF, n_sParFF, n_sP3, n_sP4, n_eTupR, n_eLstR, n_eRevT, q_revT, n_sAsg, n_gTn_t, n_gTn_k, n_gsCons, n_gsNil, n_eLC, n_iSeq, n_seq_s, n_seq_l, n_seq_t, n_seq_k,
 rq1_e, rq2_e, n_iRng1m, n_iRng2m, n_eSl, n_oNone, n_oSome, n_eMeth, n_eRev, apQ_e, n_sAppend, n_sAug, n_fnM, n_ret, n_ask, n_dTuple, cif_t, cif_f, isB_bl, isI_int, optP_s, hasT,
 getS, setS, frzS, startE, slK, wipeE, put0, put1, put2, put3, q_add_i, q_add_s, q_add_t, q_add_l, q_sub, q_mul_i, q_mul_s, q_mod, q_neg, q_lt, q_le, q_gt, q_ge, q_eq_i, q_ne_i, q_eq_s, q_ne_s, q_is_bb, q_is_bn, q_is_in, q_is_sn, q_is_tn, q_is_nn, q_isn_bb, q_isn_bn, q_isn_in, q_isn_sn, q_isn_tn, q_isn_nn,
 q_it_l, q_it_t, q_it_k, q_it_s, at0, at1, at2, at3, atm1_1, atm1_2, atm1_a, q_len_s, q_len_l, q_len_t, q_isi, q_int, q_str, ty_int, ty_str, ty_bl, ty_lst, ty_tup, ty_kt, ty_non, isiT, q_sl_s, q_sl_t, q_sl_l,
 n_iZipU, n_iEnU, eqU_l, zqU_ll, zqU_lt, zqU_ls, eqU_t, zqU_tl, zqU_tt, zqU_ts, eqU_s, zqU_sl, zqU_st, zqU_ss, eqU_k,
 List.map_cons, List.map_nil, List.length_cons, List.length_nil, List.cons_append, List.nil_append, List.append_nil, List.replicate_zero, List.replicate_succ, Nat.reduceAdd, Nat.reduceSub, Nat.reduceEqDiff, Nat.reduceLeDiff, Int.reduceAdd, Int.reduceSub, Int.reduceMul, Int.reduceMod, Int.reduceNeg, Int.reduceLT, Int.reduceLE, Int.reduceBEq, decide_true, decide_false, Bool.not_true, Bool.not_false, true_and, and_true, Nat.zero_add]
    refine ⟨.inl s1, .inl s3, .inl s2, .inl s4, .inl s5, ?_⟩
    simp only [B11_law, n_eVar, n_eVarB, varQ_fz, varB_fz, varB_ow, n_eC, n_eCall, n_aCons, n_aNil, n_eBin, n_eUn, n_eTup, n_eLst, n_eIf, n_eAnd, n_eOr, n_eNot, n_eChain, n_tVal, n_tNot, n_tAnd, n_tOr, n_tTrue,
 n_sSeq, n_sIf, n_sNil, n_sRet, n_sExpr, n_sBreak, n_sCont, n_sSet, n_sSetO, n_sSetZ, n_sFrz, n_sFor, n_gN, pq2_e, n_sPar, n_sParFG, n_sParGF, n_sParFF, n_sP3, n_sP4, n_eTupR, n_eLstR, n_eRevT, q_revT, n_sAsg, n_gTn_t, n_gTn_k, n_gsCons, n_gsNil, n_eLC, n_iSeq, n_seq_s, n_seq_l, n_seq_t, n_seq_k,
 rq1_e, rq2_e, n_iRng1m, n_iRng2m, n_eSl, n_oNone, n_oSome, n_eMeth, n_eRev, apQ_e, n_sAppend, n_sAug, n_fnM, n_ret, n_ask, n_dTuple, cif_t, cif_f, isB_bl, isI_int, optP_s, hasT,
 getS, setS, frzS, startE, slK, wipeE, put0, put1, put2, put3, q_add_i, q_add_s, q_add_t, q_add_l, q_sub, q_mul_i, q_mul_s, q_mod, q_neg, q_lt, q_le, q_gt, q_ge, q_eq_i, q_ne_i, q_eq_s, q_ne_s, q_is_bb, q_is_bn, q_is_in, q_is_sn, q_is_tn, q_is_nn, q_isn_bb, q_isn_bn, q_isn_in, q_isn_sn, q_isn_tn, q_isn_nn,
 q_it_l, q_it_t, q_it_k, q_it_s, at0, at1, at2, at3, atm1_1, atm1_2, atm1_a, q_len_s, q_len_l, q_len_t, q_isi, q_int, q_str, ty_int, ty_str, ty_bl, ty_lst, ty_tup, ty_kt, ty_non, isiT, q_sl_s, q_sl_t, q_sl_l,
 n_iZipU, n_iEnU, eqU_l, zqU_ll, zqU_lt, zqU_ls, eqU_t, zqU_tl, zqU_tt, zqU_ts, eqU_s, zqU_sl, zqU_st, zqU_ss, eqU_k,
 List.map_cons, List.map_nil, List.length_cons, List.length_nil, List.cons_append, List.nil_append, List.append_nil, List.replicate_zero, List.replicate_succ, Nat.reduceAdd, Nat.reduceSub, Nat.reduceEqDiff, Nat.reduceLeDiff, Int.reduceAdd, Int.reduceSub, Int.reduceMul, Int.reduceMod, Int.reduceNeg, Int.reduceLT, Int.reduceLE, Int.reduceBEq, decide_true, decide_false, Bool.not_true, Bool.not_false, true_and, and_true, Nat.zero_add]
    refine ⟨.inl s1, .inl s3, .inl s5, (show 2 ≤ lim by decide), ?_⟩
    have e1 : (rgt e).1 * (rgt e).1 + (upw e).1 * (upw e).1 + 2 * ((rgt e).2 * (rgt e).2 + (upw e).2 * (upw e).2) = (sqE e).1 := by unfold sqE; simp only; grind
    have e2 : 2 * ((rgt e).1 * (rgt e).2 + (upw e).1 * (upw e).2) = (sqE e).2 := by unfold sqE; simp only; grind
    rw [e1, e2]
    refine ⟨by rw [List.length_map, List.length_map]; simp only [lim]; omega, ?_⟩
    refine hK _ ⟨.fz (.int (sqE e).1), .fz (prD2 (rgt e)), .fz (prD2 (upw e)), .fz (.int e.w), ?_⟩
    rw [List.map_append, List.map_append]
    rfl
  · rintro env ⟨x5, x16, x17, x18, rfl⟩
    exact turnD hl hs hK
/-- the words -/
theorem turnB {d : D} {env : Env} {K : Env → Prop} (he : Ik ns env) (hK : ∀ e, Ik ns e → K e) : gN 2 d env fun env' => B22_law { nx := K, ct := K, bk := E.nx, rt := E.rt } env' := by
  obtain ⟨x2, x3, x4, x5, x6, x7, x8, x9, x10, x11, x12, x13, x14, x15, x16, x17, x18, x19, x20, x21, x22, x23, rfl⟩ := he
  simp only [B22_law, n_eVar, n_eVarB, varQ_fz, varB_fz, varB_ow, n_eC, n_eCall, n_aCons, n_aNil, n_eBin, n_eUn, n_eTup, n_eLst, n_eIf, n_eAnd, n_eOr, n_eNot, n_eChain, n_tVal, n_tNot, n_tAnd, n_tOr, n_tTrue,
 n_sSeq, n_sIf, n_sNil, n_sRet, n_sExpr, n_sBreak, n_sCont, n_sSet, n_sSetO, n_sSetZ, n_sFrz, n_sFor, n_gN, pq2_e, n_sPar, n_sParFG, n_sParGF, n_sParFF, n_sP3, n_sP4, n_eTupR, n_eLstR, n_eRevT, q_revT, n_sAsg, n_gTn_t, n_gTn_k, n_gsCons, n_gsNil, n_eLC, n_iSeq, n_seq_s, n_seq_l, n_seq_t, n_seq_k,
 rq1_e, rq2_e, n_iRng1m, n_iRng2m, n_eSl, n_oNone, n_oSome, n_eMeth, n_eRev, apQ_e, n_sAppend, n_sAug, n_fnM, n_ret, n_ask, n_dTuple, cif_t, cif_f, isB_bl, isI_int, optP_s, hasT,
 getS, setS, frzS, startE, slK, wipeE, put0, put1, put2, put3, q_add_i, q_add_s, q_add_t, q_add_l, q_sub, q_mul_i, q_mul_s, q_mod, q_neg, q_lt, q_le, q_gt, q_ge, q_eq_i, q_ne_i, q_eq_s, q_ne_s, q_is_bb, q_is_bn, q_is_in, q_is_sn, q_is_tn, q_is_nn, q_isn_bb, q_isn_bn, q_isn_in, q_isn_sn, q_isn_tn, q_isn_nn,
 q_it_l, q_it_t, q_it_k, q_it_s, at0, at1, at2, at3, atm1_1, atm1_2, atm1_a, q_len_s, q_len_l, q_len_t, q_isi, q_int, q_str, ty_int, ty_str, ty_bl, ty_lst, ty_tup, ty_kt, ty_non, isiT, q_sl_s, q_sl_t, q_sl_l,
 n_iZipU, n_iEnU, eqU_l, zqU_ll, zqU_lt, zqU_ls, eqU_t, zqU_tl, zqU_tt, zqU_ts, eqU_s, zqU_sl, zqU_st, zqU_ss, eqU_k,
 List.map_cons, List.map_nil, List.length_cons, List.length_nil, List.cons_append, List.nil_append, List.append_nil, List.replicate_zero, List.replicate_succ, Nat.reduceAdd, Nat.reduceSub, Nat.reduceEqDiff, Nat.reduceLeDiff, Int.reduceAdd, Int.reduceSub, Int.reduceMul, Int.reduceMod, Int.reduceNeg, Int.reduceLT, Int.reduceLE, Int.reduceBEq, decide_true, decide_false, Bool.not_true, Bool.not_false, true_and, and_true, Nat.zero_add]
  refine ⟨by decide, ?_⟩
  refine sp_law_some (by decide) (by decide) fun n hn => ?_
  have hn' : ∃ k : Int, n = .int k ∧ 0 ≤ k ∧ k ≤ 40 := by
    simp only [List.mem_cons, List.mem_nil_iff, or_false] at hn
    rcases hn with rfl | rfl <;> exact ⟨_, rfl, by decide, by decide⟩
  obtain ⟨k, rfl, k0, k1⟩ := hn'
  refine sp_law_word k0 (by omega) fun s sl hs => ?_
  have hl : s.length ≤ 120 := by omega
  simp only [B21_law, n_eVar, n_eVarB, varQ_fz, varB_fz, varB_ow, n_eC, n_eCall, n_aCons, n_aNil, n_eBin, n_eUn, n_eTup, n_eLst, n_eIf, n_eAnd, n_eOr, n_eNot, n_eChain, n_tVal, n_tNot, n_tAnd, n_tOr, n_tTrue,
 n_sSeq, n_sIf, n_sNil, n_sRet, n_sExpr, n_sBreak, n_sCont, n_sSet, n_sSetO, n_sSetZ, n_sFrz, n_sFor, n_gN, pq2_e, n_sPar, n_sParFG, n_sParGF, n_sParFF, n_sP3, n_sP4, n_eTupR, n_eLstR, n_eRevT, q_revT, n_sAsg, n_gTn_t, n_gTn_k, n_gsCons, n_gsNil, n_eLC, n_iSeq, n_seq_s, n_seq_l, n_seq_t, n_seq_k,
 rq1_e, rq2_e, n_iRng1m, n_iRng2m, n_eSl, n_oNone, n_oSome, n_eMeth, n_eRev, apQ_e, n_sAppend, n_sAug, n_fnM, n_ret, n_ask, n_dTuple, cif_t, cif_f, isB_bl, isI_int, optP_s, hasT,
 getS, setS, frzS, startE, slK, wipeE, put0, put1, put2, put3, q_add_i, q_add_s, q_add_t, q_add_l, q_sub, q_mul_i, q_mul_s, q_mod, q_neg, q_lt, q_le, q_gt, q_ge, q_eq_i, q_ne_i, q_eq_s, q_ne_s, q_is_bb, q_is_bn, q_is_in, q_is_sn, q_is_tn, q_is_nn, q_isn_bb, q_isn_bn, q_isn_in, q_isn_sn, q_isn_tn, q_isn_nn,
 q_it_l, q_it_t, q_it_k, q_it_s, at0, at1, at2, at3, atm1_1, atm1_2, atm1_a, q_len_s, q_len_l, q_len_t, q_isi, q_int, q_str, ty_int, ty_str, ty_bl, ty_lst, ty_tup, ty_kt, ty_non, isiT, q_sl_s, q_sl_t, q_sl_l,
 n_iZipU, n_iEnU, eqU_l, zqU_ll, zqU_lt, zqU_ls, eqU_t, zqU_tl, zqU_tt, zqU_ts, eqU_s, zqU_sl, zqU_st, zqU_ss, eqU_k,
 List.map_cons, List.map_nil, List.length_cons, List.length_nil, List.cons_append, List.nil_append, List.append_nil, List.replicate_zero, List.replicate_succ, Nat.reduceAdd, Nat.reduceSub, Nat.reduceEqDiff, Nat.reduceLeDiff, Int.reduceAdd, Int.reduceSub, Int.reduceMul, Int.reduceMod, Int.reduceNeg, Int.reduceLT, Int.reduceLE, Int.reduceBEq, decide_true, decide_false, Bool.not_true, Bool.not_false, true_and, and_true, Nat.zero_add]
  refine sp_law_trail hs (by omega) ?_
  refine ⟨by rw [List.length_map, trail_len]; simp only [lim]; omega, ?_⟩
  refine lc_eachm lD tD _ (fun e he K hK => ?_) ?_
  · rw [gt2]
    simp only [n_eVar, n_eVarB, varQ_fz, varB_fz, varB_ow, n_eC, n_eCall, n_aCons, n_aNil, n_eBin, n_eUn, n_eTup, n_eLst, n_eIf, n_eAnd, n_eOr, n_eNot, n_eChain, n_tVal, n_tNot, n_tAnd, n_tOr, n_tTrue,
 n_sSeq, n_sIf, n_sNil, n_sRet, n_sExpr, n_sBreak, n_sCont, n_sSet, n_sSetO, n_sSetZ, n_sFrz, n_sFor, n_gN, pq2_e, n_sPar, n_sParFG, n_sParGF, n_sParFF, n_sP3, n_sP4, n_eTupR, n_eLstR, n_eRevT, q_revT, n_sAsg, n_gTn_t, n_gTn_k, n_gsCons, n_gsNil, n_eLC, n_iSeq, n_seq_s, n_seq_l, n_seq_t, n_seq_k,
 rq1_e, rq2_e, n_iRng1m, n_iRng2m, n_eSl, n_oNone, n_oSome, n_eMeth, n_eRev, apQ_e, n_sAppend, n_sAug, n_fnM, n_ret, n_ask, n_dTuple, cif_t, cif_f, isB_bl, isI_int, optP_s, hasT,
 getS, setS, frzS, startE, slK, wipeE, put0, put1, put2, put3, q_add_i, q_add_s, q_add_t, q_add_l, q_sub, q_mul_i, q_mul_s, q_mod, q_neg, q_lt, q_le, q_gt, q_ge, q_eq_i, q_ne_i, q_eq_s, q_ne_s, q_is_bb, q_is_bn, q_is_in, q_is_sn, q_is_tn, q_is_nn, q_isn_bb, q_isn_bn, q_isn_in, q_isn_sn, q_isn_tn, q_isn_nn,
 q_it_l, q_it_t, q_it_k, q_it_s, at0, at1, at2, at3, atm1_1, atm1_2, atm1_a, q_len_s, q_len_l, q_len_t, q_isi, q_int, q_str, ty_int, ty_str, ty_bl, ty_lst, ty_tup, ty_kt, ty_non, isiT, q_sl_s, q_sl_t, q_sl_l,
 n_iZipU, n_iEnU, eqU_l, zqU_ll, zqU_lt, zqU_ls, eqU_t, zqU_tl, zqU_tt, zqU_ts, eqU_s, zqU_sl, zqU_st, zqU_ss, eqU_k,
 List.map_cons, List.map_nil, List.length_cons, List.length_nil, List.cons_append, List.nil_append, List.append_nil, List.replicate_zero, List.replicate_succ, Nat.reduceAdd, Nat.reduceSub, Nat.reduceEqDiff, Nat.reduceLeDiff, Int.reduceAdd, Int.reduceSub, Int.reduceMul, Int.reduceMod, Int.reduceNeg, Int.reduceLT, Int.reduceLE, Int.reduceBEq, decide_true, decide_false, Bool.not_true, Bool.not_false, true_and, and_true, Nat.zero_add]
    exact sp_law_told_of hK
  simp only [B20_law, n_eVar, n_eVarB, varQ_fz, varB_fz, varB_ow, n_eC, n_eCall, n_aCons, n_aNil, n_eBin, n_eUn, n_eTup, n_eLst, n_eIf, n_eAnd, n_eOr, n_eNot, n_eChain, n_tVal, n_tNot, n_tAnd, n_tOr, n_tTrue,
 n_sSeq, n_sIf, n_sNil, n_sRet, n_sExpr, n_sBreak, n_sCont, n_sSet, n_sSetO, n_sSetZ, n_sFrz, n_sFor, n_gN, pq2_e, n_sPar, n_sParFG, n_sParGF, n_sParFF, n_sP3, n_sP4, n_eTupR, n_eLstR, n_eRevT, q_revT, n_sAsg, n_gTn_t, n_gTn_k, n_gsCons, n_gsNil, n_eLC, n_iSeq, n_seq_s, n_seq_l, n_seq_t, n_seq_k,
 rq1_e, rq2_e, n_iRng1m, n_iRng2m, n_eSl, n_oNone, n_oSome, n_eMeth, n_eRev, apQ_e, n_sAppend, n_sAug, n_fnM, n_ret, n_ask, n_dTuple, cif_t, cif_f, isB_bl, isI_int, optP_s, hasT,
 getS, setS, frzS, startE, slK, wipeE, put0, put1, put2, put3, q_add_i, q_add_s, q_add_t, q_add_l, q_sub, q_mul_i, q_mul_s, q_mod, q_neg, q_lt, q_le, q_gt, q_ge, q_eq_i, q_ne_i, q_eq_s, q_ne_s, q_is_bb, q_is_bn, q_is_in, q_is_sn, q_is_tn, q_is_nn, q_isn_bb, q_isn_bn, q_isn_in, q_isn_sn, q_isn_tn, q_isn_nn,
 q_it_l, q_it_t, q_it_k, q_it_s, at0, at1, at2, at3, atm1_1, atm1_2, atm1_a, q_len_s, q_len_l, q_len_t, q_isi, q_int, q_str, ty_int, ty_str, ty_bl, ty_lst, ty_tup, ty_kt, ty_non, isiT, q_sl_s, q_sl_t, q_sl_l,
 n_iZipU, n_iEnU, eqU_l, zqU_ll, zqU_lt, zqU_ls, eqU_t, zqU_tl, zqU_tt, zqU_ts, eqU_s, zqU_sl, zqU_st, zqU_ss, eqU_k,
 List.map_cons, List.map_nil, List.length_cons, List.length_nil, List.cons_append, List.nil_append, List.append_nil, List.replicate_zero, List.replicate_succ, Nat.reduceAdd, Nat.reduceSub, Nat.reduceEqDiff, Nat.reduceLeDiff, Int.reduceAdd, Int.reduceSub, Int.reduceMul, Int.reduceMod, Int.reduceNeg, Int.reduceLT, Int.reduceLE, Int.reduceBEq, decide_true, decide_false, Bool.not_true, Bool.not_false, true_and, and_true, Nat.zero_add]
  refine sp_box hl hs fun a b c d ha hb hc hd a2 b2 c2 d2 => ?_
  simp only [B19_law, n_eVar, n_eVarB, varQ_fz, varB_fz, varB_ow, n_eC, n_eCall, n_aCons, n_aNil, n_eBin, n_eUn, n_eTup, n_eLst, n_eIf, n_eAnd, n_eOr, n_eNot, n_eChain, n_tVal, n_tNot, n_tAnd, n_tOr, n_tTrue,
 n_sSeq, n_sIf, n_sNil, n_sRet, n_sExpr, n_sBreak, n_sCont, n_sSet, n_sSetO, n_sSetZ, n_sFrz, n_sFor, n_gN, pq2_e, n_sPar, n_sParFG, n_sParGF, n_sParFF, n_sP3, n_sP4, n_eTupR, n_eLstR, n_eRevT, q_revT, n_sAsg, n_gTn_t, n_gTn_k, n_gsCons, n_gsNil, n_eLC, n_iSeq, n_seq_s, n_seq_l, n_seq_t, n_seq_k,
 rq1_e, rq2_e, n_iRng1m, n_iRng2m, n_eSl, n_oNone, n_oSome, n_eMeth, n_eRev, apQ_e, n_sAppend, n_sAug, n_fnM, n_ret, n_ask, n_dTuple, cif_t, cif_f, isB_bl, isI_int, optP_s, hasT,
 getS, setS, frzS, startE, slK, wipeE, put0, put1, put2, put3, q_add_i, q_add_s, q_add_t, q_add_l, q_sub, q_mul_i, q_mul_s, q_mod, q_neg, q_lt, q_le, q_gt, q_ge, q_eq_i, q_ne_i, q_eq_s, q_ne_s, q_is_bb, q_is_bn, q_is_in, q_is_sn, q_is_tn, q_is_nn, q_isn_bb, q_isn_bn, q_isn_in, q_isn_sn, q_isn_tn, q_isn_nn,
 q_it_l, q_it_t, q_it_k, q_it_s, at0, at1, at2, at3, atm1_1, atm1_2, atm1_a, q_len_s, q_len_l, q_len_t, q_isi, q_int, q_str, ty_int, ty_str, ty_bl, ty_lst, ty_tup, ty_kt, ty_non, isiT, q_sl_s, q_sl_t, q_sl_l,
 n_iZipU, n_iEnU, eqU_l, zqU_ll, zqU_lt, zqU_ls, eqU_t, zqU_tl, zqU_tt, zqU_ts, eqU_s, zqU_sl, zqU_st, zqU_ss, eqU_k,
 List.map_cons, List.map_nil, List.length_cons, List.length_nil, List.cons_append, List.nil_append, List.append_nil, List.replicate_zero, List.replicate_succ, Nat.reduceAdd, Nat.reduceSub, Nat.reduceEqDiff, Nat.reduceLeDiff, Int.reduceAdd, Int.reduceSub, Int.reduceMul, Int.reduceMod, Int.reduceNeg, Int.reduceLT, Int.reduceLE, Int.reduceBEq, decide_true, decide_false, Bool.not_true, Bool.not_false, true_and, and_true, Nat.zero_add]
  refine ⟨(show 3 ≤ lim by decide), (show 3 ≤ lim by decide), (show 3 ≤ lim by decide), (show 3 ≤ lim by decide), (show 4 ≤ lim by decide), ?_⟩
  have gt3 : ∀ {x y z : D} {env : Env} {Q : Env → Prop}, gTn 3 (gsCons (gN 10) (gsCons (gN 11) (gsCons (gN 12) gsNil))) (.tup [x, y, z]) env Q = Q (setS (setS (setS env 10 (.fz x)) 11 (.fz y)) 12 (.fz z)) := fun {x y z env Q} => propext ⟨fun h => h.2, fun h => ⟨rfl, h⟩⟩
  have fw : ∀ {g : GM} {S : SM} {E : DE} {d : D} {ds : List D} {env : Env}, (g d env fun env' => S { nx := forW g S ds E, ct := forW g S ds E, bk := E.nx, rt := E.rt } env') → forW g S (d :: ds) E env := fun h => h
  have neg : ∀ {x y : Int × Int}, posS (x.1 - y.1) (x.2 - y.2) → posS (-1 * (y.1 - x.1)) (-1 * (y.2 - x.2)) := fun {x y} h => by
    rw [show -1 * (y.1 - x.1) = x.1 - y.1 by omega, show -1 * (y.2 - x.2) = x.2 - y.2 by omega]; exact h
  have pos : ∀ {x y : Int × Int}, posS (x.1 - y.1) (x.2 - y.2) → posS (1 * (x.1 - y.1)) (1 * (x.2 - y.2)) := fun {x y} h => by
    rw [Int.one_mul, Int.one_mul]; exact h
  refine fw ?_
  rw [gt3]
  refine side (j := 0) (m := a) hl (.inl ⟨rfl, rfl⟩) rfl ha (.inl rfl) (fun x hx => pos (a2 x hx)) fun x13 x14 x21 x22 x23 => ?_
  refine fw ?_
  rw [gt3]
  refine side (j := 1) (m := b) hl (.inl ⟨rfl, rfl⟩) rfl hb (.inr rfl) (fun x hx => neg (b2 x hx)) fun x13 x14 x21 x22 x23 => ?_
  refine fw ?_
  rw [gt3]
  refine side (j := 2) (m := c) hl (.inr ⟨rfl, rfl⟩) rfl hc (.inl rfl) (fun x hx => pos (c2 x hx)) fun x13 x14 x21 x22 x23 => ?_
  refine fw ?_
  rw [gt3]
  refine side (j := 3) (m := d) hl (.inr ⟨rfl, rfl⟩) rfl hd (.inr rfl) (fun x hx => neg (d2 x hx)) fun x13 x14 x21 x22 x23 => ?_
  exact turnC hl hs hK
theorem tail {ns : List Int} {env : Env} (he : Ik ns env) {nx bk ct : Env → Prop} : B24_law { nx := nx, bk := bk, ct := ct, rt := fun d => d = .bl true } env := by
  obtain ⟨x2, x3, x4, x5, x6, x7, x8, x9, x10, x11, x12, x13, x14, x15, x16, x17, x18, x19, x20, x21, x22, x23, rfl⟩ := he
  simp (decide := true) only [B24_law, q_pow, n_eVar, n_eVarB, varQ_fz, varB_fz, varB_ow, n_eC, n_eCall, n_aCons, n_aNil, n_eBin, n_eUn, n_eTup, n_eLst, n_eIf, n_eAnd, n_eOr, n_eNot, n_eChain, n_tVal, n_tNot, n_tAnd, n_tOr, n_tTrue,
 n_sSeq, n_sIf, n_sNil, n_sRet, n_sExpr, n_sBreak, n_sCont, n_sSet, n_sSetO, n_sSetZ, n_sFrz, n_sFor, n_gN, pq2_e, n_sPar, n_sParFG, n_sParGF, n_sParFF, n_sP3, n_sP4, n_eTupR, n_eLstR, n_eRevT, q_revT, n_sAsg, n_gTn_t, n_gTn_k, n_gsCons, n_gsNil, n_eLC, n_iSeq, n_seq_s, n_seq_l, n_seq_t, n_seq_k,
 rq1_e, rq2_e, n_iRng1m, n_iRng2m, n_eSl, n_oNone, n_oSome, n_eMeth, n_eRev, apQ_e, n_sAppend, n_sAug, n_fnM, n_ret, n_ask, n_dTuple, cif_t, cif_f, isB_bl, isI_int, optP_s, hasT,
 getS, setS, frzS, startE, slK, wipeE, put0, put1, put2, put3, q_add_i, q_add_s, q_add_t, q_add_l, q_sub, q_mul_i, q_mul_s, q_mod, q_neg, q_lt, q_le, q_gt, q_ge, q_eq_i, q_ne_i, q_eq_s, q_ne_s, q_is_bb, q_is_bn, q_is_in, q_is_sn, q_is_tn, q_is_nn, q_isn_bb, q_isn_bn, q_isn_in, q_isn_sn, q_isn_tn, q_isn_nn,
 q_it_l, q_it_t, q_it_k, q_it_s, at0, at1, at2, at3, atm1_1, atm1_2, atm1_a, q_len_s, q_len_l, q_len_t, q_isi, q_int, q_str, ty_int, ty_str, ty_bl, ty_lst, ty_tup, ty_kt, ty_non, isiT, q_sl_s, q_sl_t, q_sl_l,
 n_iZipU, n_iEnU, eqU_l, zqU_ll, zqU_lt, zqU_ls, eqU_t, zqU_tl, zqU_tt, zqU_ts, eqU_s, zqU_sl, zqU_st, zqU_ss, eqU_k,
 List.map_cons, List.map_nil, List.length_cons, List.length_nil, List.cons_append, List.nil_append, List.append_nil, List.replicate_zero, List.replicate_succ, Nat.reduceAdd, Nat.reduceSub, Nat.reduceEqDiff, Nat.reduceLeDiff, Int.reduceAdd, Int.reduceSub, Int.reduceMul, Int.reduceMod, Int.reduceNeg, Int.reduceLT, Int.reduceLE, Int.reduceBEq, decide_true, decide_false, Bool.not_true, Bool.not_false, true_and, and_true, Nat.zero_add]
  rw [show ((10 : Int) ^ Int.toNat 9) = 1000000000 from by decide]
  refine sp_sign_of (by decide) (by decide) (by decide) (by decide) ?_
  refine sp_sign_of (by decide) (by decide) (by decide) (by decide) ?_
  refine sp_whole_of (by decide) (by decide) (by decide) (by decide) fun v v1 v2 => ?_
  refine sp_whole_of (by decide) (by decide) (by decide) (by decide) fun w w1 w2 => ?_
  refine sp_is_less (by decide) (by decide) (by decide) (by decide) (by decide) (by decide) (by decide) (by decide) ?_
  have ev : v = 707106781 := whole_uniq v1 v2 (by decide +kernel) (by decide +kernel)
  have ew : w = -1 := whole_uniq w1 w2 (by decide +kernel) (by decide +kernel)
  subst ev ew
  rw [show sg 665857 (-470832) = 1 by decide +kernel, show sg 1 0 = 1 by decide +kernel, show sg (99 - 0) (0 - 70) = 1 by decide +kernel]
  simp (decide := true) only [B23_law, n_eVar, n_eVarB, varQ_fz, varB_fz, varB_ow, n_eC, n_eCall, n_aCons, n_aNil, n_eBin, n_eUn, n_eTup, n_eLst, n_eIf, n_eAnd, n_eOr, n_eNot, n_eChain, n_tVal, n_tNot, n_tAnd, n_tOr, n_tTrue,
 n_sSeq, n_sIf, n_sNil, n_sRet, n_sExpr, n_sBreak, n_sCont, n_sSet, n_sSetO, n_sSetZ, n_sFrz, n_sFor, n_gN, pq2_e, n_sPar, n_sParFG, n_sParGF, n_sParFF, n_sP3, n_sP4, n_eTupR, n_eLstR, n_eRevT, q_revT, n_sAsg, n_gTn_t, n_gTn_k, n_gsCons, n_gsNil, n_eLC, n_iSeq, n_seq_s, n_seq_l, n_seq_t, n_seq_k,
 rq1_e, rq2_e, n_iRng1m, n_iRng2m, n_eSl, n_oNone, n_oSome, n_eMeth, n_eRev, apQ_e, n_sAppend, n_sAug, n_fnM, n_ret, n_ask, n_dTuple, cif_t, cif_f, isB_bl, isI_int, optP_s, hasT,
 getS, setS, frzS, startE, slK, wipeE, put0, put1, put2, put3, q_add_i, q_add_s, q_add_t, q_add_l, q_sub, q_mul_i, q_mul_s, q_mod, q_neg, q_lt, q_le, q_gt, q_ge, q_eq_i, q_ne_i, q_eq_s, q_ne_s, q_is_bb, q_is_bn, q_is_in, q_is_sn, q_is_tn, q_is_nn, q_isn_bb, q_isn_bn, q_isn_in, q_isn_sn, q_isn_tn, q_isn_nn,
 q_it_l, q_it_t, q_it_k, q_it_s, at0, at1, at2, at3, atm1_1, atm1_2, atm1_a, q_len_s, q_len_l, q_len_t, q_isi, q_int, q_str, ty_int, ty_str, ty_bl, ty_lst, ty_tup, ty_kt, ty_non, isiT, q_sl_s, q_sl_t, q_sl_l,
 n_iZipU, n_iEnU, eqU_l, zqU_ll, zqU_lt, zqU_ls, eqU_t, zqU_tl, zqU_tt, zqU_ts, eqU_s, zqU_sl, zqU_st, zqU_ss, eqU_k,
 List.map_cons, List.map_nil, List.length_cons, List.length_nil, List.cons_append, List.nil_append, List.append_nil, List.replicate_zero, List.replicate_succ, Nat.reduceAdd, Nat.reduceSub, Nat.reduceEqDiff, Nat.reduceLeDiff, Int.reduceAdd, Int.reduceSub, Int.reduceMul, Int.reduceMod, Int.reduceNeg, Int.reduceLT, Int.reduceLE, Int.reduceBEq, decide_true, decide_false, Bool.not_true, Bool.not_false, true_and, and_true, Nat.zero_add]
  exact sp_law_same (by simp [smD, smD_int, smD_bl, lim]) rfl
theorem law_true0 (ns : List Int) (hcup : ∀ P, P D.cup → m_law_cup [.scr ns] P) : m_law [.scr ns] (fun d => d = .bl true) := by
  simp only [m_law, S_law, B27_law, n_eVar, n_eVarB, varQ_fz, varB_fz, varB_ow, n_eC, n_eCall, n_aCons, n_aNil, n_eBin, n_eUn, n_eTup, n_eLst, n_eIf, n_eAnd, n_eOr, n_eNot, n_eChain, n_tVal, n_tNot, n_tAnd, n_tOr, n_tTrue,
 n_sSeq, n_sIf, n_sNil, n_sRet, n_sExpr, n_sBreak, n_sCont, n_sSet, n_sSetO, n_sSetZ, n_sFrz, n_sFor, n_gN, pq2_e, n_sPar, n_sParFG, n_sParGF, n_sParFF, n_sP3, n_sP4, n_eTupR, n_eLstR, n_eRevT, q_revT, n_sAsg, n_gTn_t, n_gTn_k, n_gsCons, n_gsNil, n_eLC, n_iSeq, n_seq_s, n_seq_l, n_seq_t, n_seq_k,
 rq1_e, rq2_e, n_iRng1m, n_iRng2m, n_eSl, n_oNone, n_oSome, n_eMeth, n_eRev, apQ_e, n_sAppend, n_sAug, n_fnM, n_ret, n_ask, n_dTuple, cif_t, cif_f, isB_bl, isI_int, optP_s, hasT,
 getS, setS, frzS, startE, slK, wipeE, put0, put1, put2, put3, q_add_i, q_add_s, q_add_t, q_add_l, q_sub, q_mul_i, q_mul_s, q_mod, q_neg, q_lt, q_le, q_gt, q_ge, q_eq_i, q_ne_i, q_eq_s, q_ne_s, q_is_bb, q_is_bn, q_is_in, q_is_sn, q_is_tn, q_is_nn, q_isn_bb, q_isn_bn, q_isn_in, q_isn_sn, q_isn_tn, q_isn_nn,
 q_it_l, q_it_t, q_it_k, q_it_s, at0, at1, at2, at3, atm1_1, atm1_2, atm1_a, q_len_s, q_len_l, q_len_t, q_isi, q_int, q_str, ty_int, ty_str, ty_bl, ty_lst, ty_tup, ty_kt, ty_non, isiT, q_sl_s, q_sl_t, q_sl_l,
 n_iZipU, n_iEnU, eqU_l, zqU_ll, zqU_lt, zqU_ls, eqU_t, zqU_tl, zqU_tt, zqU_ts, eqU_s, zqU_sl, zqU_st, zqU_ss, eqU_k,
 List.map_cons, List.map_nil, List.length_cons, List.length_nil, List.cons_append, List.nil_append, List.append_nil, List.replicate_zero, List.replicate_succ, Nat.reduceAdd, Nat.reduceSub, Nat.reduceEqDiff, Nat.reduceLeDiff, Int.reduceAdd, Int.reduceSub, Int.reduceMul, Int.reduceMod, Int.reduceNeg, Int.reduceLT, Int.reduceLE, Int.reduceBEq, decide_true, decide_false, Bool.not_true, Bool.not_false, true_and, and_true, Nat.zero_add]
  refine hcup _ ?_
  simp only [B26_law, n_eVar, n_eVarB, varQ_fz, varB_fz, varB_ow, n_eC, n_eCall, n_aCons, n_aNil, n_eBin, n_eUn, n_eTup, n_eLst, n_eIf, n_eAnd, n_eOr, n_eNot, n_eChain, n_tVal, n_tNot, n_tAnd, n_tOr, n_tTrue,
 n_sSeq, n_sIf, n_sNil, n_sRet, n_sExpr, n_sBreak, n_sCont, n_sSet, n_sSetO, n_sSetZ, n_sFrz, n_sFor, n_gN, pq2_e, n_sPar, n_sParFG, n_sParGF, n_sParFF, n_sP3, n_sP4, n_eTupR, n_eLstR, n_eRevT, q_revT, n_sAsg, n_gTn_t, n_gTn_k, n_gsCons, n_gsNil, n_eLC, n_iSeq, n_seq_s, n_seq_l, n_seq_t, n_seq_k,
 rq1_e, rq2_e, n_iRng1m, n_iRng2m, n_eSl, n_oNone, n_oSome, n_eMeth, n_eRev, apQ_e, n_sAppend, n_sAug, n_fnM, n_ret, n_ask, n_dTuple, cif_t, cif_f, isB_bl, isI_int, optP_s, hasT,
 getS, setS, frzS, startE, slK, wipeE, put0, put1, put2, put3, q_add_i, q_add_s, q_add_t, q_add_l, q_sub, q_mul_i, q_mul_s, q_mod, q_neg, q_lt, q_le, q_gt, q_ge, q_eq_i, q_ne_i, q_eq_s, q_ne_s, q_is_bb, q_is_bn, q_is_in, q_is_sn, q_is_tn, q_is_nn, q_isn_bb, q_isn_bn, q_isn_in, q_isn_sn, q_isn_tn, q_isn_nn,
 q_it_l, q_it_t, q_it_k, q_it_s, at0, at1, at2, at3, atm1_1, atm1_2, atm1_a, q_len_s, q_len_l, q_len_t, q_isi, q_int, q_str, ty_int, ty_str, ty_bl, ty_lst, ty_tup, ty_kt, ty_non, isiT, q_sl_s, q_sl_t, q_sl_l,
 n_iZipU, n_iEnU, eqU_l, zqU_ll, zqU_lt, zqU_ls, eqU_t, zqU_tl, zqU_tt, zqU_ts, eqU_s, zqU_sl, zqU_st, zqU_ss, eqU_k,
 List.map_cons, List.map_nil, List.length_cons, List.length_nil, List.cons_append, List.nil_append, List.append_nil, List.replicate_zero, List.replicate_succ, Nat.reduceAdd, Nat.reduceSub, Nat.reduceEqDiff, Nat.reduceLeDiff, Int.reduceAdd, Int.reduceSub, Int.reduceMul, Int.reduceMod, Int.reduceNeg, Int.reduceLT, Int.reduceLE, Int.reduceBEq, decide_true, decide_false, Bool.not_true, Bool.not_false, true_and, and_true, Nat.zero_add]
  refine ⟨by unfold far; omega, ?_⟩
  refine forW_inv (Ik ns) ⟨_, _, _, _, _, _, _, _, _, _, _, _, _, _, _, _, _, _, _, _, _, _, rfl⟩ (fun d _ env K he hK => turnA he hK) fun env he => ?_
  obtain ⟨x2, x3, x4, x5, x6, x7, x8, x9, x10, x11, x12, x13, x14, x15, x16, x17, x18, x19, x20, x21, x22, x23, rfl⟩ := he
  simp only [B25_law, n_eVar, n_eVarB, varQ_fz, varB_fz, varB_ow, n_eC, n_eCall, n_aCons, n_aNil, n_eBin, n_eUn, n_eTup, n_eLst, n_eIf, n_eAnd, n_eOr, n_eNot, n_eChain, n_tVal, n_tNot, n_tAnd, n_tOr, n_tTrue,
 n_sSeq, n_sIf, n_sNil, n_sRet, n_sExpr, n_sBreak, n_sCont, n_sSet, n_sSetO, n_sSetZ, n_sFrz, n_sFor, n_gN, pq2_e, n_sPar, n_sParFG, n_sParGF, n_sParFF, n_sP3, n_sP4, n_eTupR, n_eLstR, n_eRevT, q_revT, n_sAsg, n_gTn_t, n_gTn_k, n_gsCons, n_gsNil, n_eLC, n_iSeq, n_seq_s, n_seq_l, n_seq_t, n_seq_k,
 rq1_e, rq2_e, n_iRng1m, n_iRng2m, n_eSl, n_oNone, n_oSome, n_eMeth, n_eRev, apQ_e, n_sAppend, n_sAug, n_fnM, n_ret, n_ask, n_dTuple, cif_t, cif_f, isB_bl, isI_int, optP_s, hasT,
 getS, setS, frzS, startE, slK, wipeE, put0, put1, put2, put3, q_add_i, q_add_s, q_add_t, q_add_l, q_sub, q_mul_i, q_mul_s, q_mod, q_neg, q_lt, q_le, q_gt, q_ge, q_eq_i, q_ne_i, q_eq_s, q_ne_s, q_is_bb, q_is_bn, q_is_in, q_is_sn, q_is_tn, q_is_nn, q_isn_bb, q_isn_bn, q_isn_in, q_isn_sn, q_isn_tn, q_isn_nn,
 q_it_l, q_it_t, q_it_k, q_it_s, at0, at1, at2, at3, atm1_1, atm1_2, atm1_a, q_len_s, q_len_l, q_len_t, q_isi, q_int, q_str, ty_int, ty_str, ty_bl, ty_lst, ty_tup, ty_kt, ty_non, isiT, q_sl_s, q_sl_t, q_sl_l,
 n_iZipU, n_iEnU, eqU_l, zqU_ll, zqU_lt, zqU_ls, eqU_t, zqU_tl, zqU_tt, zqU_ts, eqU_s, zqU_sl, zqU_st, zqU_ss, eqU_k,
 List.map_cons, List.map_nil, List.length_cons, List.length_nil, List.cons_append, List.nil_append, List.append_nil, List.replicate_zero, List.replicate_succ, Nat.reduceAdd, Nat.reduceSub, Nat.reduceEqDiff, Nat.reduceLeDiff, Int.reduceAdd, Int.reduceSub, Int.reduceMul, Int.reduceMod, Int.reduceNeg, Int.reduceLT, Int.reduceLE, Int.reduceBEq, decide_true, decide_false, Bool.not_true, Bool.not_false, true_and, and_true, Nat.zero_add]
  refine ⟨by unfold far; omega, ?_⟩
  exact forW_inv (Ik ns) ⟨_, _, _, _, _, _, _, _, _, _, _, _, _, _, _, _, _, _, _, _, _, _, rfl⟩ (fun d _ env K he hK => turnB he hK) fun env he => tail he
theorem law_true (ns : List Int) (h1 : ns.length ≤ 63) (h2 : ∀ n ∈ ns, n.natAbs < 2 ^ 1049000) : m_law [.scr ns] (fun d => d = .bl true) :=
  law_true0 ns fun P h => ⟨⟨Nat.le_trans h1 (by decide), h2⟩, h⟩
end L37
set_option Elab.async false
set_option linter.all false
set_option maxRecDepth 100000
set_option maxHeartbeats 0
namespace L37
open PySem PySem.Spec PyProof.Rows L2 G
abbrev R : PySem.W.OpenRow := PySem.W.OpenLaw.row PySem.Challenge.rw_toyrails_k37_whole_numbers_with_the_root
abbrev hk : PySem.W.Hook := hookG 4 fa fn cs
def ob (s : PySem.W.SharedT) : He.AlD := obsGG 4 fa fn cs (HandSHeadRun.getT s)
theorem ob_eq (s : PySem.W.SharedT) : ob s = hk.obs s.abs := obsGG_eq (HandSHeadRun.getT_eq s)
def loose : List PySem.Str := (["RailError", "InvalidWord", "InvalidNumber", "PIECES", "is_whole", "fits_whole", "is_tuple_of", "LONG", "GREAT", "COSINES", "plus", "minus", "cosine", "sine", "root_below", "sign_in", "whole_in", "behind_in", "along_in", "fits_eighths", "need_eighths", "fits_number", "need_number", "least_in", "greatest_in", "square_in", "sign_of", "whole_of", "is_less", "product"] : List PySem.Str) ++ (["box_by_eighths", "far_squared", "farthest_place", "cell_of", "_law_cup", "_law_roll", "_law_some", "_law_same", "_law_word", "_law_times", "_law_add", "_law_step", "_law_told_of", "_law_trail", "_law_root", "_law_sign", "_law_less", "_law_number"] : List PySem.Str)
theorem run (w : World) : HandSHeadRun.RunEq R (PySem.W.view R.prog [52]) hk ob 3580 loose w := by
  intro os
  kernel_rfl
end L37
open PySem PySem.W PySem.Calls PyProof.Rows
theorem PySem.Challenge.cw_toyrails_k37_whole_numbers_with_the_root_holds : PySem.Challenge.rw_toyrails_k37_whole_numbers_with_the_root.Holds := by
  w_on; o_law
  refine HandSHeadRun.head_any (r := OpenLaw.row PySem.Challenge.rw_toyrails_k37_whole_numbers_with_the_root) (q := view (OpenLaw.row PySem.Challenge.rw_toyrails_k37_whole_numbers_with_the_root).prog [52]) (H := L37.hk) (ob := L37.ob) (M := 3580) (loose := L37.loose) (d := HandSHeadRun.topDef (OpenLaw.row PySem.Challenge.rw_toyrails_k37_whole_numbers_with_the_root).prog 52) (kwd := []) L37.ob_eq
    (by kernel_rfl) (fun s => by kernel_rfl) L37.run (by kernel_rfl) (by kernel_rfl) (by kernel_rfl) (by rfl) (by first | assumption | decide +kernel) (by decide +kernel) ⟨rfl, rfl, rfl, rfl, rfl, by decide +kernel⟩ ?hw ?hc
  case hw => w_witness2
  case hc =>
    refine G.walk_G (l := PySem.Challenge.rw_toyrails_k37_whole_numbers_with_the_root) (k := 14) (x := "script") rfl (by kernel_rfl) ⟨rfl, by decide, by decide⟩ ?F
    intro w mg fa h Y N hmg0
    obtain ⟨K, KX, c⟩ := Y
    have hmg : mg ("law" : PySem.Str) = some (.ref fa) := by
      have e : (HandSHeadRun.topDef (OpenLaw.row PySem.Challenge.rw_toyrails_k37_whole_numbers_with_the_root).prog 52).name = ("law" : PySem.Str) := by kernel_rfl
      rw [← e]
      exact hmg0
    obtain ⟨fd, hb, hF⟩ := L37.facts (P := (PySem.Challenge.rw_toyrails_k37_whole_numbers_with_the_root).prog) (w := w) KX N hmg c
    exact ⟨K, fd, L37.m_law, KX, hb, L37.law_true, hF⟩
