import PyProof.Rows.All
import Wide.All
import OpenK.AllK
import Wide.FinOn
import HandS.ForMost
import HandS.ForExc
import HandS.TryMany
import HandS.ExcIs
import HandS.IsInst
import HandS.TupAny
import HandS.SortInts
import HandS.SortRule
import HandS.Conv
import HandS.HeadHook1
import HandS.HeadHook2
import HandS.HeadHook3
import HandS.HeadHook4
import HandS.HeadEnd
import HandS.Head0
import HandS.Head1
import HandS.Head2
import HandS.Defaults
import KE.KDictCopyH
import HandS.Set
import HandS.SetFor
import HandS.SortOrd
import PySem.Challenge.RW_movecollect_k13_whole_plays
set_option Elab.async false
set_option linter.all false
set_option maxRecDepth 100000
set_option maxHeartbeats 4000000
/-! A logic of data over the layer: a body's slots hold data (Gm), the lists and dicts that it may change stand in boxes (M); tuples never change. -/
namespace Mv
open PySem PySem.Spec PyProof.Rows L2

/-- data that never changes; obj: an object at an address (a list, a dict: its box is told apart) -/
inductive D where
  | non | bl (b : Bool) | int (i : Int) | str (x : Str) | tup (ds : List D) | obj (a : Addr) | ty (n : String)

mutual
inductive Rv (H : Hp) : V → D → Prop
  | non : Rv H .non .non
  | bl (b : Bool) : Rv H (.bl b) (.bl b)
  | int (i : Int) : Rv H (.int i) (.int i)
  | str (x : Str) : Rv H (.str x) (.str x)
  | tup {a : Addr} {xs : List V} {ds : List D} (e : H a = some (.tup xs)) (h : Rvs H xs ds) : Rv H (.ref a) (.tup ds)
  | obj (a : Addr) : Rv H (.ref a) (.obj a)
  | ty (n : String) : Rv H (.ty n) (.ty n)
inductive Rvs (H : Hp) : List V → List D → Prop
  | nil : Rvs H [] []
  | cons {v : V} {d : D} {vs : List V} {ds : List D} (h : Rv H v d) (t : Rvs H vs ds) : Rvs H (v :: vs) (d :: ds)
end

/-- the tuples stay -/
def TEx (H H' : Hp) : Prop := ∀ a xs, H a = some (.tup xs) → H' a = some (.tup xs)
theorem TEx.refl (H : Hp) : TEx H H := fun _ _ h => h
theorem TEx.trans {H H1 H2 : Hp} (a : TEx H H1) (b : TEx H1 H2) : TEx H H2 := fun p xs h => b p xs (a p xs h)
theorem TEx.of {H H' : Hp} (s : Same H H') : TEx H H' := fun a xs h => s a _ h
theorem same_new {H : Hp} {p : Addr} {o : HO} (h : H p = none) : Same H (upd H p o) := fun b u e => by
  rw [upd_ne (ne_of_none e h)]; exact e

section
variable {H H' : Hp}
mutual
theorem Rv.mono (t : TEx H H') : ∀ {v : V} {d : D}, Rv H v d → Rv H' v d
  | _, _, .non => .non
  | _, _, .bl b => .bl b
  | _, _, .int i => .int i
  | _, _, .str x => .str x
  | _, _, .tup e h => .tup (t _ _ e) (Rvs.mono t h)
  | _, _, .obj a => .obj a
  | _, _, .ty n => .ty n
theorem Rvs.mono (t : TEx H H') : ∀ {vs : List V} {ds : List D}, Rvs H vs ds → Rvs H' vs ds
  | _, _, .nil => .nil
  | _, _, .cons h r => .cons (Rv.mono t h) (Rvs.mono t r)
end
end

section
variable {H : Hp} {v : V} {d : D} {vs : List V} {ds : List D}
theorem Rv.int_inv {i : Int} (h : Rv H v (.int i)) : v = .int i := by cases h; rfl
theorem Rv.bl_inv {b : Bool} (h : Rv H v (.bl b)) : v = .bl b := by cases h; rfl
theorem Rv.str_inv {x : Str} (h : Rv H v (.str x)) : v = .str x := by cases h; rfl
theorem Rv.non_inv (h : Rv H v .non) : v = .non := by cases h; rfl
theorem Rv.ty_inv {n : String} (h : Rv H v (.ty n)) : v = .ty n := by cases h; rfl
theorem Rv.obj_inv {a : Addr} (h : Rv H v (.obj a)) : v = .ref a := by cases h; rfl
theorem Rv.tup_inv (h : Rv H v (.tup ds)) : ∃ a xs, v = .ref a ∧ H a = some (.tup xs) ∧ Rvs H xs ds := by cases h with | tup e h => exact ⟨_, _, rfl, e, h⟩
theorem Rvs.length : ∀ {vs : List V} {ds : List D}, Rvs H vs ds → vs.length = ds.length
  | _, _, .nil => rfl
  | _, _, .cons _ t => by simp [Rvs.length t]
theorem Rvs.get : ∀ {vs : List V} {ds : List D} {i : Nat} {d : D}, Rvs H vs ds → ds[i]? = some d → ∃ v, vs[i]? = some v ∧ Rv H v d
  | _, _, _, _, .nil, e => by simp at e
  | _, _, 0, _, .cons h _, e => by simp at e; subst e; exact ⟨_, rfl, h⟩
  | _, _, i + 1, _, .cons _ t, e => by
    obtain ⟨v, a, b⟩ := Rvs.get (i := i) t (by simpa using e)
    exact ⟨v, by simpa using a, b⟩
theorem Rvs.getV : ∀ {vs : List V} {ds : List D} {i : Nat} {v : V}, Rvs H vs ds → vs[i]? = some v → ∃ d, ds[i]? = some d ∧ Rv H v d
  | _, _, _, _, .nil, e => by simp at e
  | _, _, 0, _, .cons h _, e => by simp at e; subst e; exact ⟨_, rfl, h⟩
  | _, _, i + 1, _, .cons _ t, e => by
    obtain ⟨v, a, b⟩ := Rvs.getV (i := i) t (by simpa using e)
    exact ⟨v, by simpa using a, b⟩
theorem Rvs.append : ∀ {vs us : List V} {ds es : List D}, Rvs H vs ds → Rvs H us es → Rvs H (vs ++ us) (ds ++ es)
  | _, _, _, _, .nil, s => s
  | _, _, _, _, .cons h t, s => .cons h (Rvs.append t s)
theorem Rvs.one (h : Rv H v d) : Rvs H [v] [d] := .cons h .nil
theorem Rvs.snoc (h : Rvs H vs ds) (r : Rv H v d) : Rvs H (vs ++ [v]) (ds ++ [d]) := h.append (.one r)
theorem Rvs.set (r : Rv H v d) : ∀ {vs : List V} {ds : List D} (i : Nat), Rvs H vs ds → Rvs H (vs.set i v) (ds.set i d)
  | _, _, _, .nil => .nil
  | _, _, 0, .cons _ t => .cons r t
  | _, _, i + 1, .cons h t => .cons h (Rvs.set r i t)
theorem Rvs.take : ∀ {vs : List V} {ds : List D} (n : Nat), Rvs H vs ds → Rvs H (vs.take n) (ds.take n)
  | _, _, 0, _ => .nil
  | _, _, _ + 1, .nil => .nil
  | _, _, n + 1, .cons h t => .cons h (Rvs.take n t)
theorem Rvs.drop : ∀ {vs : List V} {ds : List D} (n : Nat), Rvs H vs ds → Rvs H (vs.drop n) (ds.drop n)
  | _, _, 0, r => r
  | _, _, _ + 1, .nil => .nil
  | _, _, n + 1, .cons _ t => Rvs.drop n t
theorem Rvs.ints : ∀ {vs : List V} {ns : List Int}, Rvs H vs (ns.map D.int) → vs = ns.map V.int
  | _, [], .nil => rfl
  | _, n :: ns, .cons h t => by cases h; rw [Rvs.ints t]; rfl
theorem Rvs.of_ints : ∀ {ns : List Int}, Rvs H (ns.map V.int) (ns.map D.int)
  | [] => .nil
  | n :: ns => .cons (.int n) Rvs.of_ints
theorem Rvs.nil_iff (h : Rvs H vs ds) : vs = [] ↔ ds = [] := by cases h <;> simp
end

/-! ### boxes -/
/-- lst, dt, dk: a list, a dict (keys tuples; keys ints and texts) that may be written; ro, rt, rk: such that are read; ko: a list of the written part -/
inductive Box where
  | lst (ds : List D) | dt (kvs : List (List Key × D)) | dk (kvs : List (Key × D)) | ro (ds : List D) | ko (ds : List D) | rt (kvs : List (List Key × D)) | rk (kvs : List (Key × D))
def Box.wr : Box → Bool
  | .lst _ => true
  | .dt _ => true
  | .dk _ => true
  | _ => false
/-- what may be read of a box -/
inductive Rb where
  | l (ds : List D) | t (kvs : List (List Key × D)) | k (kvs : List (Key × D))
def Box.isKo : Box → Bool
  | .ko _ => true
  | _ => false
def Box.rb : Box → Rb
  | .lst ds => .l ds
  | .ro ds => .l ds
  | .ko ds => .l ds
  | .dt kvs => .t kvs
  | .rt kvs => .t kvs
  | .dk kvs => .k kvs
  | .rk kvs => .k kvs
abbrev Kvs {κ : Type} (H : Hp) : List (κ × V) → List (κ × D) → Prop := Paired fun p q => p.1 = q.1 ∧ Rv H p.2 q.2
theorem Kvs.mono {κ : Type} {H H' : Hp} (t : TEx H H') : ∀ {ws : List (κ × V)} {kvs : List (κ × D)}, Kvs H ws kvs → Kvs H' ws kvs
  | _, _, .nil => .nil
  | _, _, .cons h r => .cons ⟨h.1, h.2.mono t⟩ (Kvs.mono t r)
/-- a list of the written part -/
def KoL (K : PySem.W.Frag) (a : Addr) (xs : List V) : Prop :=
  ∃ (o : Obj) (its : Array Value) (n : Nat), K.lookup a = some o ∧ o.cls = .type "list" ∧ o.dict = none ∧ o.data = .seq its n ∧ its.size ≤ sizeLine ∧ Vals xs its.toList
def BoxAt (K : PySem.W.Frag) (H : Hp) (a : Addr) : Box → Prop
  | .lst ds => ∃ xs, H a = some (.lst xs) ∧ Rvs H xs ds
  | .dt kvs => ∃ ws, H a = some (.dT ws) ∧ Kvs H ws kvs
  | .dk kvs => ∃ ws, H a = some (.dK ws) ∧ Kvs H ws kvs
  | .ro ds => ∃ xs, Rd H a (.lst xs) ∧ Rvs H xs ds
  | .ko ds => ∃ xs, KoL K a xs ∧ Rvs H xs ds
  | .rt kvs => ∃ ws, Rd H a (.dT ws) ∧ Kvs H ws kvs
  | .rk kvs => ∃ ws, Rd H a (.dK ws) ∧ Kvs H ws kvs
theorem Rd.same {H H' : Hp} {a : Addr} {u : HO} (s : ∀ o, H a = some o → H' a = some o) (h : Rd H a u) : Rd H' a u := by
  rcases h with h | ⟨o, h⟩
  · exact .inl (s _ h)
  · exact .inr ⟨o, s _ h⟩
theorem BoxAt.mono {K : PySem.W.Frag} {H H' : Hp} {a : Addr} (t : TEx H H') {b : Box} (s : b.isKo = false → ∀ o, H a = some o → H' a = some o) (h : BoxAt K H a b) : BoxAt K H' a b := by
  cases b with
  | lst _ => obtain ⟨xs, e, r⟩ := h; exact ⟨xs, s rfl _ e, r.mono t⟩
  | dt _ => obtain ⟨xs, e, r⟩ := h; exact ⟨xs, s rfl _ e, r.mono t⟩
  | dk _ => obtain ⟨xs, e, r⟩ := h; exact ⟨xs, s rfl _ e, r.mono t⟩
  | ro _ => obtain ⟨xs, e, r⟩ := h; exact ⟨xs, Rd.same (s rfl) e, r.mono t⟩
  | ko _ => obtain ⟨xs, e, r⟩ := h; exact ⟨xs, e, r.mono t⟩
  | rt _ => obtain ⟨xs, e, r⟩ := h; exact ⟨xs, Rd.same (s rfl) e, r.mono t⟩
  | rk _ => obtain ⟨xs, e, r⟩ := h; exact ⟨xs, Rd.same (s rfl) e, r.mono t⟩
abbrev Bxs := List (Addr × Box)
/-- the addresses that stand in the heap -/
def ads (M : Bxs) : List Addr := (M.filter fun p => !p.2.isKo).map (·.1)
def BxsAt (K : PySem.W.Frag) (H : Hp) (M : Bxs) : Prop := (∀ p ∈ M, BoxAt K H p.1 p.2) ∧ (ads M).Nodup
theorem BoxAt.not_tup {K : PySem.W.Frag} {H : Hp} {a : Addr} {b : Box} (h : BoxAt K H a b) (r : b.isKo = false) (xs : List V) : H a ≠ some (.tup xs) := by
  cases b with
  | lst ds => obtain ⟨x, e, _⟩ := h; rw [e]; intro z; cases z
  | dt ds => obtain ⟨x, e, _⟩ := h; rw [e]; intro z; cases z
  | dk ds => obtain ⟨x, e, _⟩ := h; rw [e]; intro z; cases z
  | ro ds => obtain ⟨x, e | ⟨o, e⟩, _⟩ := h <;> (rw [e]; intro z; cases z)
  | ko ds => cases r
  | rt ds => obtain ⟨x, e | ⟨o, e⟩, _⟩ := h <;> (rw [e]; intro z; cases z)
  | rk ds => obtain ⟨x, e | ⟨o, e⟩, _⟩ := h <;> (rw [e]; intro z; cases z)
theorem BoxAt.not_none {K : PySem.W.Frag} {H : Hp} {a : Addr} {b : Box} (h : BoxAt K H a b) (r : b.isKo = false) : H a ≠ none := by
  cases b with
  | lst ds => obtain ⟨x, e, _⟩ := h; rw [e]; intro z; cases z
  | dt ds => obtain ⟨x, e, _⟩ := h; rw [e]; intro z; cases z
  | dk ds => obtain ⟨x, e, _⟩ := h; rw [e]; intro z; cases z
  | ro ds => obtain ⟨x, e | ⟨o, e⟩, _⟩ := h <;> (rw [e]; intro z; cases z)
  | ko ds => cases r
  | rt ds => obtain ⟨x, e | ⟨o, e⟩, _⟩ := h <;> (rw [e]; intro z; cases z)
  | rk ds => obtain ⟨x, e | ⟨o, e⟩, _⟩ := h <;> (rw [e]; intro z; cases z)
theorem BoxAt.seq {K : PySem.W.Frag} {H : Hp} {a : Addr} {b : Box} {ds : List D} (h : BoxAt K H a b) (r : b.rb = .l ds) : ∃ xs, SqL K H a xs ∧ Rvs H xs ds := by
  cases b with
  | lst _ => cases r; obtain ⟨x, e, r⟩ := h; exact ⟨x, .of e, r⟩
  | ro _ => cases r; obtain ⟨x, e, r⟩ := h; exact ⟨x, .inl e, r⟩
  | ko _ => cases r; obtain ⟨x, e, r⟩ := h; exact ⟨x, .inr e, r⟩
  | _ => cases r
theorem BoxAt.tab {K : PySem.W.Frag} {H : Hp} {a : Addr} {b : Box} {kvs : List (List Key × D)} (h : BoxAt K H a b) (r : b.rb = .t kvs) : ∃ ws, Rd H a (.dT ws) ∧ Kvs H ws kvs := by
  cases b with
  | dt _ => cases r; obtain ⟨x, e, r⟩ := h; exact ⟨x, .inl e, r⟩
  | rt _ => cases r; obtain ⟨x, e, r⟩ := h; exact ⟨x, e, r⟩
  | _ => cases r
theorem BoxAt.tabk {K : PySem.W.Frag} {H : Hp} {a : Addr} {b : Box} {kvs : List (Key × D)} (h : BoxAt K H a b) (r : b.rb = .k kvs) : ∃ ws, Rd H a (.dK ws) ∧ Kvs H ws kvs := by
  cases b with
  | dk _ => cases r; obtain ⟨x, e, r⟩ := h; exact ⟨x, .inl e, r⟩
  | rk _ => cases r; obtain ⟨x, e, r⟩ := h; exact ⟨x, e, r⟩
  | _ => cases r
theorem ads_cons {p : Addr × Box} {M : Bxs} : ads (p :: M) = if p.2.isKo = true then ads M else p.1 :: ads M := by
  unfold ads
  cases h : p.2.isKo <;> simp [h]
theorem mem_ads {a : Addr} {M : Bxs} : a ∈ ads M ↔ ∃ p ∈ M, p.2.isKo = false ∧ p.1 = a := by
  unfold ads
  simp only [List.mem_map, List.mem_filter, Bool.not_eq_true']
  exact ⟨fun ⟨p, ⟨h1, h2⟩, h3⟩ => ⟨p, h1, h2, h3⟩, fun ⟨p, h1, h2, h3⟩ => ⟨p, ⟨h1, h2⟩, h3⟩⟩
theorem wr_ko {b : Box} (h : b.wr = true) : b.isKo = false := by cases b <;> first | rfl | cases h

/-! ### where one stands -/
/-- what stays the same through a body: the written part, the heap at the entry, the boxes that may change, a heap whose tuples stay -/
structure Am where
  K : PySem.W.Frag
  H0 : Hp
  mx : List Addr
  Hb : Hp
abbrev Am.re (A : Am) (H : Hp) : Am := ⟨A.K, A.H0, A.mx, H⟩
abbrev Gm := List (Option D)
structure Sit (A : Am) (G : Gm) (M : Bxs) (σ : L2.St) (H : Hp) : Prop where
  len : σ.length = G.length
  loc : ∀ (i : Nat) (d : D), G[i]? = some (some d) → ∃ v, σ[i]? = some (some v) ∧ Rv H v d
  box : ∀ p ∈ M, BoxAt A.K H p.1 p.2
  nd : (ads M).Nodup
  fr : ∀ a o, A.H0 a = some o → a ∉ A.mx → H a = some o
  wr : ∀ p ∈ M, p.2.wr = true → ∀ o, A.H0 p.1 = some o → p.1 ∈ A.mx
  tx : TEx A.Hb H

section
variable {A : Am} {G : Gm} {M M' : Bxs} {σ : L2.St} {H H' : Hp}
theorem Sit.same (S : Sit A G M σ H) (e : Same H H') : Sit A G M σ H' where
  len := S.len
  loc := fun i d h => let ⟨v, a, b⟩ := S.loc i d h; ⟨v, a, b.mono (.of e)⟩
  box := fun p hp => (S.box p hp).mono (.of e) fun _ => e _
  nd := S.nd
  fr := fun a o h hm => e _ _ (S.fr a o h hm)
  wr := S.wr
  tx := S.tx.trans (.of e)
theorem Sit.re (S : Sit A G M σ H) : Sit (A.re H) G M σ H := ⟨S.len, S.loc, S.box, S.nd, S.fr, S.wr, .refl _⟩
theorem Sit.un {H1 : Hp} (S : Sit (A.re H1) G M σ H) (t : TEx A.Hb H1) : Sit A G M σ H := ⟨S.len, S.loc, S.box, S.nd, S.fr, S.wr, t.trans S.tx⟩
theorem Sit.slot {v : V} {d : D} (S : Sit A G M σ H) (i : Nat) (r : Rv H v d) : Sit A (G.set i (some d)) M (σ.set i (some v)) H where
  len := by simp [S.len]
  loc := fun j e h => by
    by_cases hj : j = i
    · subst hj
      by_cases hl : j < G.length
      · rw [List.getElem?_set_self hl] at h
        cases h
        exact ⟨v, by rw [List.getElem?_set_self (by rw [S.len]; exact hl)], r⟩
      · rw [List.getElem?_eq_none (by simp; omega)] at h; cases h
    · rw [List.getElem?_set_ne (Ne.symm hj)] at h
      obtain ⟨u, a, b⟩ := S.loc j e h
      exact ⟨u, by rw [List.getElem?_set_ne (Ne.symm hj)]; exact a, b⟩
  box := S.box
  nd := S.nd
  fr := S.fr
  wr := S.wr
  tx := S.tx
/-- less is known of the slots -/
theorem Sit.less {G' : Gm} {σ' : L2.St} (S : Sit A G M σ H) (hl : σ'.length = G'.length) (h : ∀ (i : Nat) d, G'[i]? = some (some d) → ∃ v, σ'[i]? = some (some v) ∧ Rv H v d) : Sit A G' M σ' H := ⟨hl, h, S.box, S.nd, S.fr, S.wr, S.tx⟩
/-- fewer boxes -/
theorem Sit.sub (S : Sit A G M σ H) (h : M'.Sublist M) : Sit A G M' σ H := ⟨S.len, S.loc, fun p hp => S.box p (h.subset hp), S.nd.sublist ((h.filter _).map _), S.fr, fun p hp => S.wr p (h.subset hp), S.tx⟩
theorem Sit.perm (S : Sit A G M σ H) (h : M'.Perm M) : Sit A G M' σ H := ⟨S.len, S.loc, fun p hp => S.box p (h.subset hp), ((h.filter _).map _).nodup_iff.mpr S.nd, S.fr, fun p hp => S.wr p (h.subset hp), S.tx⟩
/-- a box of a new object -/
theorem Sit.add {p : Addr} {o : HO} {b : Box} (S : Sit A G M σ H) (hp : H p = none) (hb : BoxAt A.K (upd H p o) p b) : Sit A G ((p, b) :: M) σ (upd H p o) := by
  have S' := S.same (same_new (o := o) hp)
  refine ⟨S'.len, S'.loc, fun q hq => ?_, ?_, S'.fr, fun q hq hr u hu => ?_, S'.tx⟩
  · rcases List.mem_cons.mp hq with rfl | hq
    · exact hb
    · exact S'.box q hq
  · rw [ads_cons]
    split
    · exact S'.nd
    · rw [List.nodup_cons]
      refine ⟨fun hm => ?_, S'.nd⟩
      obtain ⟨q, hq, hk, e⟩ := mem_ads.mp hm
      exact (S.box q hq).not_none hk (e ▸ hp)
  · rcases List.mem_cons.mp hq with rfl | hq
    · by_cases hm : p ∈ A.mx
      · exact hm
      · have := S.fr p u hu hm
        rw [hp] at this; cases this
    · exact S'.wr q hq hr u hu
/-- a box at p becomes another -/
inductive Up (p : Addr) (b b' : Box) : Bxs → Bxs → Prop
  | here {l : Bxs} : Up p b b' ((p, b) :: l) ((p, b') :: l)
  | there {q : Addr × Box} {l l' : Bxs} (h : Up p b b' l l') : Up p b b' (q :: l) (q :: l')
theorem Up.mem {p : Addr} {b b' : Box} : ∀ {M M' : Bxs}, Up p b b' M M' → (p, b) ∈ M
  | _, _, .here => List.mem_cons_self
  | _, _, .there h => List.mem_cons_of_mem _ (Up.mem h)
theorem Up.ads {p : Addr} {b b' : Box} (h1 : b.isKo = false) (h2 : b'.isKo = false) : ∀ {M M' : Bxs}, Up p b b' M M' → ads M' = ads M
  | _, _, .here => by simp [ads_cons, h1, h2]
  | _, _, .there h => by rw [ads_cons, ads_cons, Up.ads h1 h2 h]
/-- what is in the new boxes: the new one, or one that stands elsewhere -/
theorem Up.cases' {p : Addr} {b b' : Box} (h1 : b.isKo = false) : ∀ {M M' : Bxs}, Up p b b' M M' → (Mv.ads M).Nodup → ∀ q ∈ M', q = (p, b') ∨ (q ∈ M ∧ (q.2.isKo = false → q.1 ≠ p))
  | _, _, .here (l := l), nd, q, hq => by
    rcases List.mem_cons.mp hq with e | hq
    · exact .inl e
    · refine .inr ⟨List.mem_cons_of_mem _ hq, fun hk e => ?_⟩
      rw [ads_cons, if_neg (by simp [h1]), List.nodup_cons] at nd
      exact nd.1 (mem_ads.mpr ⟨q, hq, hk, e⟩)
  | _, _, .there (q := r) (l := l) h, nd, q, hq => by
    have nd' : (Mv.ads l).Nodup := by
      rw [ads_cons] at nd
      split at nd
      · exact nd
      · exact (List.nodup_cons.mp nd).2
    rcases List.mem_cons.mp hq with e | hq
    · refine .inr ⟨by rw [e]; exact List.mem_cons_self, fun hk e2 => ?_⟩
      rw [e] at hk e2
      rw [ads_cons, if_neg (by simp [hk]), List.nodup_cons] at nd
      exact nd.1 (mem_ads.mpr ⟨_, Up.mem h, h1, e2.symm⟩)
    · rcases Up.cases' h1 h nd' q hq with e | ⟨hm, hn⟩
      · exact .inl e
      · exact .inr ⟨List.mem_cons_of_mem _ hm, hn⟩
theorem tex_upd {p : Addr} {o : HO} (h : ∀ xs, H p ≠ some (.tup xs)) : TEx H (upd H p o) := fun a xs e => by
  by_cases ha : a = p
  · subst ha; exact absurd e (h xs)
  · rw [upd_ne ha]; exact e
theorem Sit.write {p : Addr} {o : HO} {b b' : Box} (S : Sit A G M σ H) (u : Up p b b' M M') (hw : b.wr = true) (hw' : b'.wr = true) (hb : BoxAt A.K (upd H p o) p b') : Sit A G M' σ (upd H p o) := by
  have hk := wr_ko hw
  have ob := S.box _ u.mem
  have t : TEx H (upd H p o) := tex_upd (ob.not_tup hk)
  refine ⟨S.len, fun i d h => ?_, fun q hq => ?_, ?_, fun a v h hm => ?_, fun q hq hr v hv => ?_, S.tx.trans t⟩
  · obtain ⟨v, a, r⟩ := S.loc i d h
    exact ⟨v, a, r.mono t⟩
  · rcases u.cases' hk S.nd q hq with rfl | ⟨hm, hn⟩
    · exact hb
    · exact (S.box q hm).mono t fun hq2 o' e => by rw [upd_ne (hn hq2)]; exact e
  · rw [u.ads hk (wr_ko hw')]; exact S.nd
  · have hp : a ≠ p := by
      rintro rfl
      exact hm (S.wr _ u.mem hw v h)
    rw [upd_ne hp]; exact S.fr a v h hm
  · rcases u.cases' hk S.nd q hq with rfl | ⟨hm, _⟩
    · exact S.wr (p, b) u.mem hw v hv
    · exact S.wr q hm hr v hv
theorem Sit.tex_write {p : Addr} {o : HO} {b : Box} (S : Sit A G M σ H) (hm : (p, b) ∈ M) (hw : b.wr = true) : TEx H (upd H p o) := tex_upd ((S.box _ hm).not_tup (wr_ko hw))
end
end Mv

/-! Base2: readings over data: expressions, tests, arguments, statements. -/
namespace Mv
open PySem PySem.Spec PyProof.Rows L2

/-- an expression: every outcome d, M' is good -/
def We (A : Am) (te : TE) (G : Gm) (M : Bxs) (R : D → Bxs → Prop) : Prop := ∀ σ H, Sit A G M σ H → ∀ Q : VK, (∀ d M' v H', R d M' → Sit A G M' σ H' → TEx H H' → Rv H' v d → Q v H') → te σ H Q
def Wt (A : Am) (tt : TT) (G : Gm) (M : Bxs) (R : Bool → Bxs → Prop) : Prop := ∀ σ H, Sit A G M σ H → ∀ Q : Bool → Hp → Prop, (∀ b M' H', R b M' → Sit A G M' σ H' → TEx H H' → Q b H') → tt σ H Q
def Wa (A : Am) (ta : TA) (G : Gm) (M : Bxs) (R : List D → Bxs → Prop) : Prop := ∀ σ H, Sit A G M σ H → ∀ Q : List V → Hp → Prop, (∀ ds M' vs H', R ds M' → Sit A G M' σ H' → TEx H H' → Rvs H' vs ds → Q vs H') → ta σ H Q
def Wo (A : Am) (to : TO) (G : Gm) (M : Bxs) (R : Option Int → Bxs → Prop) : Prop := ∀ σ H, Sit A G M σ H → ∀ Q : Option Int → Hp → Prop, (∀ o M' H', R o M' → Sit A G M' σ H' → TEx H H' → Q o H') → to σ H Q
/-- what follows, from slots and boxes -/
def Ns (A : Am) (φ : L2.St → Hp → Prop) (G : Gm) (M : Bxs) : Prop := ∀ σ H, Sit A G M σ H → φ σ H
def Rt (A : Am) (rt : VK) (G : Gm) (d : D) (M : Bxs) : Prop := ∀ σ H v, Sit A G M σ H → Rv H v d → rt v H
/-- operations on values, over data -/
def Op2 (A : Am) (r : R2) (x y : D) (G : Gm) (M : Bxs) (R : D → Bxs → Prop) : Prop := ∀ σ H v u, Sit A G M σ H → Rv H v x → Rv H u y → ∀ Q : VK, (∀ d M' w H', R d M' → Sit A G M' σ H' → TEx H H' → Rv H' w d → Q w H') → r v u H Q
def Op1 (A : Am) (r : V → Hp → VK → Prop) (x : D) (G : Gm) (M : Bxs) (R : D → Bxs → Prop) : Prop := ∀ σ H v, Sit A G M σ H → Rv H v x → ∀ Q : VK, (∀ d M' w H', R d M' → Sit A G M' σ H' → TEx H H' → Rv H' w d → Q w H') → r v H Q
def Cl (A : Am) (r : List V → Hp → VK → Prop) (xs : List D) (G : Gm) (M : Bxs) (R : D → Bxs → Prop) : Prop := ∀ σ H vs, Sit A G M σ H → Rvs H vs xs → ∀ Q : VK, (∀ d M' w H', R d M' → Sit A G M' σ H' → TEx H H' → Rv H' w d → Q w H') → r vs H Q

section
variable {A : Am} {G : Gm} {M : Bxs} {ta tb te tc : TE} {t u : TT} {R : D → Bxs → Prop} {RB : Bool → Bxs → Prop} {RA : List D → Bxs → Prop}

theorem We.imp {R' : D → Bxs → Prop} (h : We A te G M R) (k : ∀ d M', R d M' → R' d M') : We A te G M R' := fun σ H S Q q => h σ H S Q fun d M' v H' r => q d M' v H' (k _ _ r)
theorem w_var {i : Nat} {d : D} (h : G[i]? = some (some d)) (k : R d M) : We A (tVar i) G M R := fun σ H S Q q =>
  let ⟨v, a, r⟩ := S.loc i d h
  ⟨v, a, q d M v H k S (.refl _) r⟩
theorem w_int {i : Int} (k : R (.int i) M) : We A (tC (.int i)) G M R := fun σ H S Q q => q _ M _ H k S (.refl _) (.int i)
theorem w_bl {i : Bool} (k : R (.bl i) M) : We A (tC (.bl i)) G M R := fun σ H S Q q => q _ M _ H k S (.refl _) (.bl i)
theorem w_str {i : Str} (k : R (.str i) M) : We A (tC (.str i)) G M R := fun σ H S Q q => q _ M _ H k S (.refl _) (.str i)
theorem w_non (k : R .non M) : We A (tC .non) G M R := fun σ H S Q q => q _ M _ H k S (.refl _) .non
theorem w_op {r : R2} (h : We A ta G M fun x M1 => We A tb G M1 fun y M2 => Op2 A r x y G M2 R) : We A (tOp r ta tb) G M R := fun σ H S Q q =>
  h σ H S _ fun x M1 v H1 k S1 t1 r1 => k σ H1 S1 _ fun y M2 u H2 k2 S2 t2 r2 => k2 σ H2 v u S2 (r1.mono t2) r2 Q fun d M' w H' z S' t' r' => q d M' w H' z S' ((t1.trans t2).trans t') r'
theorem w_un {r : V → Hp → VK → Prop} (h : We A ta G M fun x M1 => Op1 A r x G M1 R) : We A (tUn r ta) G M R := fun σ H S Q q =>
  h σ H S _ fun x M1 v H1 k S1 t1 r1 => k σ H1 v S1 r1 Q fun d M' w H' z S' t' r' => q d M' w H' z S' (t1.trans t') r'
theorem w_chain {r r' : R2} (h : We A ta G M fun x M1 => We A tb G M1 fun y M2 => Op2 A r x y G M2 fun z M3 => ∃ k, z = .bl k ∧ (k = true → We A tc G M3 fun w M4 => Op2 A r' y w G M4 R) ∧ (k = false → R (.bl false) M3)) : We A (tChain r r' ta tb tc) G M R := fun σ H S Q q =>
  h σ H S _ fun x M1 v H1 k S1 t1 r1 => k σ H1 S1 _ fun y M2 u H2 k2 S2 t2 r2 => k2 σ H2 v u S2 (r1.mono t2) r2 _ fun z M3 w H3 ⟨b, e, ky, kn⟩ S3 t3 r3 => by
    subst e
    refine ⟨b, r3.bl_inv, ?_⟩
    cases b with
    | true =>
      rw [if_pos rfl]
      exact ky rfl σ H3 S3 _ fun w4 M4 v4 H4 k4 S4 t4 r4 => k4 σ H4 u v4 S4 ((r2.mono t3).mono t4) r4 Q fun d M' w' H' z S' t' r' => q d M' w' H' z S' ((((t1.trans t2).trans t3).trans t4).trans t') r'
    | false =>
      rw [if_neg (by simp)]
      exact q _ M3 _ H3 (kn rfl) S3 ((t1.trans t2).trans t3) (.bl false)
theorem w_ifExp (h : Wt A t G M fun b M1 => (b = true → We A ta G M1 R) ∧ (b = false → We A tb G M1 R)) : We A (tIf t ta tb) G M R := fun σ H S Q q =>
  h σ H S _ fun b M1 H1 ⟨ky, kn⟩ S1 t1 => by
    cases b with
    | true => rw [if_pos rfl]; exact ky rfl σ H1 S1 Q fun d M' w H' z S' t' r' => q d M' w H' z S' (t1.trans t') r'
    | false => rw [if_neg (by simp)]; exact kn rfl σ H1 S1 Q fun d M' w H' z S' t' r' => q d M' w H' z S' (t1.trans t') r'
theorem w_andV (h : We A ta G M fun x M1 => ∃ c, x = .bl c ∧ (c = true → We A tb G M1 R) ∧ (c = false → R (.bl false) M1)) : We A (tAndV ta tb) G M R := fun σ H S Q q =>
  h σ H S _ fun x M1 v H1 ⟨c, e, ky, kn⟩ S1 t1 r1 => by
    subst e
    refine ⟨c, r1.bl_inv, ?_⟩
    cases c with
    | true => rw [if_pos rfl]; exact ky rfl σ H1 S1 Q fun d M' w H' z S' t' r' => q d M' w H' z S' (t1.trans t') r'
    | false => rw [if_neg (by simp)]; exact q _ M1 _ H1 (kn rfl) S1 t1 (.bl false)
theorem w_orV (h : We A ta G M fun x M1 => ∃ c, x = .bl c ∧ (c = false → We A tb G M1 R) ∧ (c = true → R (.bl true) M1)) : We A (tOrV ta tb) G M R := fun σ H S Q q =>
  h σ H S _ fun x M1 v H1 ⟨c, e, kn, ky⟩ S1 t1 r1 => by
    subst e
    refine ⟨c, r1.bl_inv, ?_⟩
    cases c with
    | true => rw [if_pos rfl]; exact q _ M1 _ H1 (ky rfl) S1 t1 (.bl true)
    | false => rw [if_neg (by simp)]; exact kn rfl σ H1 S1 Q fun d M' w H' z S' t' r' => q d M' w H' z S' (t1.trans t') r'
theorem w_notV (h : We A ta G M fun x M1 => ∃ c, x = .bl c ∧ R (.bl (!c)) M1) : We A (tNotV ta) G M R := fun σ H S Q q =>
  h σ H S _ fun x M1 v H1 ⟨c, e, k⟩ S1 t1 r1 => by subst e; exact ⟨c, r1.bl_inv, q _ M1 _ H1 k S1 t1 (.bl _)⟩

/-! ### tests -/
theorem wt_test (h : We A te G M fun x M1 => ∃ b, x = .bl b ∧ RB b M1) : Wt A (tTest te) G M RB := fun σ H S Q q =>
  h σ H S _ fun x M1 v H1 ⟨b, e, k⟩ S1 t1 r1 => by subst e; exact ⟨b, r1.bl_inv, q b M1 H1 k S1 t1⟩
theorem wt_B (h : We A te G M fun x M1 => ∃ b, x = .bl b ∧ RB b M1) : Wt A (tB te) G M RB := fun σ H S Q q =>
  h σ H S _ fun x M1 v H1 ⟨b, e, k⟩ S1 t1 r1 => by subst e; exact ⟨b, r1.bl_inv, q b M1 H1 k S1 t1⟩
theorem wt_and (h : Wt A t G M fun b M1 => (b = true → Wt A u G M1 RB) ∧ (b = false → RB false M1)) : Wt A (tAnd t u) G M RB := fun σ H S Q q =>
  h σ H S _ fun b M1 H1 ⟨ky, kn⟩ S1 t1 => by
    cases b with
    | true => rw [if_pos rfl]; exact ky rfl σ H1 S1 Q fun b' M' H' z S' t' => q b' M' H' z S' (t1.trans t')
    | false => rw [if_neg (by simp)]; exact q false M1 H1 (kn rfl) S1 t1
theorem wt_or (h : Wt A t G M fun b M1 => (b = false → Wt A u G M1 RB) ∧ (b = true → RB true M1)) : Wt A (tOr t u) G M RB := fun σ H S Q q =>
  h σ H S _ fun b M1 H1 ⟨kn, ky⟩ S1 t1 => by
    cases b with
    | true => rw [if_pos rfl]; exact q true M1 H1 (ky rfl) S1 t1
    | false => rw [if_neg (by simp)]; exact kn rfl σ H1 S1 Q fun b' M' H' z S' t' => q b' M' H' z S' (t1.trans t')
theorem wt_not (h : Wt A t G M fun b M1 => RB (!b) M1) : Wt A (tNot t) G M RB := fun σ H S Q q => h σ H S _ fun b M1 H1 k S1 t1 => q _ M1 H1 k S1 t1
theorem wt_yes (h : RB true M) : Wt A tYes G M RB := fun σ H S Q q => q true M H h S (.refl _)
theorem Wt.imp {R' : Bool → Bxs → Prop} (h : Wt A t G M RB) (k : ∀ d M', RB d M' → R' d M') : Wt A t G M R' := fun σ H S Q q => h σ H S Q fun d M' H' r => q d M' H' (k _ _ r)

/-! ### arguments -/
theorem wa_nil (k : RA [] M) : Wa A tNil G M RA := fun σ H S Q q => q [] M [] H k S (.refl _) .nil
theorem wa_cons {tr : TA} (h : We A te G M fun x M1 => Wa A tr G M1 fun xs M2 => RA (x :: xs) M2) : Wa A (tCons te tr) G M RA := fun σ H S Q q =>
  h σ H S _ fun x M1 v H1 k S1 t1 r1 => k σ H1 S1 _ fun xs M2 vs H2 k2 S2 t2 r2 => q _ M2 _ H2 k2 S2 (t1.trans t2) (.cons (r1.mono t2) r2)
theorem w_cb {r : List V → Hp → VK → Prop} {ta : TA} (h : Wa A ta G M fun ds M1 => Cl A r ds G M1 R) : We A (tCB r ta) G M R := fun σ H S Q q =>
  h σ H S _ fun ds M1 vs H1 k S1 t1 r1 => k σ H1 vs S1 r1 Q fun d M' w H' z S' t' r' => q d M' w H' z S' (t1.trans t') r'

/-! ### new objects -/
/-- a new tuple -/
theorem new_tup {σ : L2.St} {H : Hp} {p : Addr} {xs : List V} {ds : List D} (S : Sit A G M σ H) (hp : H p = none) (r : Rvs H xs ds) : Sit A G M σ (upd H p (.tup xs)) ∧ TEx H (upd H p (.tup xs)) ∧ Rv (upd H p (.tup xs)) (.ref p) (.tup ds) :=
  ⟨S.same (same_new hp), .of (same_new hp), .tup upd_same (r.mono (.of (same_new hp)))⟩
theorem new_lst {σ : L2.St} {H : Hp} {p : Addr} {xs : List V} {ds : List D} (S : Sit A G M σ H) (hp : H p = none) (r : Rvs H xs ds) : Sit A G ((p, .lst ds) :: M) σ (upd H p (.lst xs)) ∧ TEx H (upd H p (.lst xs)) ∧ Rv (upd H p (.lst xs)) (.ref p) (.obj p) :=
  ⟨S.add hp ⟨xs, upd_same, r.mono (.of (same_new hp))⟩, .of (same_new hp), .obj p⟩
theorem sz_of {n : Nat} (h : n ≤ 10000000) : n ≤ sizeLine := by rw [sizeLine_eq]; omega
theorem sz_lt {n : Nat} (h : n < 10000000) : n < sizeLine := by rw [sizeLine_eq]; omega
theorem w_tup {ta : TA} (h : Wa A ta G M fun ds M1 => ds.length ≤ 10000000 ∧ R (.tup ds) M1) : We A (tTup ta) G M R := fun σ H S Q q =>
  h σ H S _ fun ds M1 vs H1 ⟨hl, k⟩ S1 t1 r1 => ⟨sz_of (by rw [r1.length]; exact hl), fun p hp =>
    let ⟨S2, t2, r2⟩ := new_tup S1 hp r1
    q _ M1 _ _ k S2 (t1.trans t2) r2⟩
theorem w_lst {ta : TA} (h : Wa A ta G M fun ds M1 => ds.length ≤ 10000000 ∧ ∀ p, R (.obj p) ((p, .lst ds) :: M1)) : We A (tLst ta) G M R := fun σ H S Q q =>
  h σ H S _ fun ds M1 vs H1 ⟨hl, k⟩ S1 t1 r1 => ⟨sz_of (by rw [r1.length]; exact hl), fun p hp =>
    let ⟨S2, t2, r2⟩ := new_lst S1 hp r1
    q _ _ _ _ (k p) S2 (t1.trans t2) r2⟩
theorem w_dnewK (k : ∀ p, R (.obj p) ((p, .dk []) :: M)) : We A tDNewK G M R := fun σ H S Q q p hp =>
  q _ _ _ _ (k p) (S.add hp ⟨[], upd_same, .nil⟩) (.of (same_new hp)) (.obj p)
theorem w_dnewT (k : ∀ p, R (.obj p) ((p, .dt []) :: M)) : We A tDNewT G M R := fun σ H S Q q p hp =>
  q _ _ _ _ (k p) (S.add hp ⟨[], upd_same, .nil⟩) (.of (same_new hp)) (.obj p)

/-! ### operators -/
section
variable {i j : Int} {x y : D}
theorem o_I0 {g : Int → Int → V} {d : D} (hg : ∀ H, Rv H (g i j) d) (k : R d M) : Op2 A (rI0 g) (.int i) (.int j) G M R := fun σ H v u S rv ru Q q =>
  ⟨i, j, rv.int_inv, ru.int_inv, q _ M _ H k S (.refl _) (hg H)⟩
theorem o_I {C : Int → Int → Prop} {g : Int → Int → V} {d : D} (hg : ∀ H, Rv H (g i j) d) (hc : C i j) (k : R d M) : Op2 A (rI C g) (.int i) (.int j) G M R := fun σ H v u S rv ru Q q =>
  ⟨i, j, rv.int_inv, ru.int_inv, hc, q _ M _ H k S (.refl _) (hg H)⟩
theorem o_U {g : Int → V} {d : D} (hg : ∀ H, Rv H (g i) d) (k : R d M) : Op1 A (rU g) (.int i) G M R := fun σ H v S rv Q q =>
  ⟨i, rv.int_inv, q _ M _ H k S (.refl _) (hg H)⟩
theorem o_inl {r r' : R2} (h : Op2 A r x y G M R) : Op2 A (fun x y H Q => r x y H Q ∨ r' x y H Q) x y G M R := fun σ H v u S rv ru Q q => .inl (h σ H v u S rv ru Q q)
theorem o_inr {r r' : R2} (h : Op2 A r' x y G M R) : Op2 A (fun x y H Q => r x y H Q ∨ r' x y H Q) x y G M R := fun σ H v u S rv ru Q q => .inr (h σ H v u S rv ru Q q)
/-- t[i], l[i] -/
theorem o_ixT {ds : List D} {d : D} (ha : atI ds i = some d) (k : R d M) : Op2 A (rIx A.K) (.tup ds) (.int i) G M R := fun σ H v u S rv ru Q q => by
  obtain ⟨a, xs, rfl, e, r⟩ := rv.tup_inv
  cases ru.int_inv
  have hl := r.length
  unfold atI at ha
  obtain ⟨n, hn, ha⟩ := Option.bind_eq_some_iff.mp ha
  obtain ⟨w, hw, rw'⟩ := r.get ha
  exact .inr (.inl ⟨a, xs, i, w, rfl, rfl, .of e, by unfold atI; rw [hl, hn]; exact hw, q _ M _ H k S (.refl _) rw'⟩)
theorem o_ixL {p : Addr} {b : Box} {ds : List D} {d : D} (hm : (p, b) ∈ M) (hb : b.rb = .l ds) (ha : atI ds i = some d) (k : R d M) : Op2 A (rIx A.K) (.obj p) (.int i) G M R := fun σ H v u S rv ru Q q => by
  cases rv.obj_inv
  cases ru.int_inv
  obtain ⟨xs, e, r⟩ := (S.box _ hm).seq hb
  have hl := r.length
  unfold atI at ha
  obtain ⟨n, hn, ha⟩ := Option.bind_eq_some_iff.mp ha
  obtain ⟨w, hw, rw'⟩ := r.get ha
  exact .inl ⟨p, xs, i, w, rfl, rfl, e, by unfold atI; rw [hl, hn]; exact hw, q _ M _ H k S (.refl _) rw'⟩
/-- t + u -/
theorem o_catT {ds es : List D} (hl : ds.length + es.length ≤ 10000000) (k : R (.tup (ds ++ es)) M) : Op2 A (rCatA A.K) (.tup ds) (.tup es) G M R := fun σ H v u S rv ru Q q => by
  obtain ⟨a, xs, rfl, e, r⟩ := rv.tup_inv
  obtain ⟨b, ys, rfl, e', r'⟩ := ru.tup_inv
  refine ⟨a, b, xs, ys, rfl, rfl, .of e, .of e', sz_of (by rw [r.length, r'.length]; exact hl), fun h => ?_, fun h1 h2 => ?_, fun h1 h2 p hp => ?_⟩
  · have := r.nil_iff.mp h
    subst this
    exact q _ M _ H k S (.refl _) (.tup e' r')
  · have := r'.nil_iff.mp h2
    subst this
    rw [List.append_nil] at k
    exact q _ M _ H k S (.refl _) (.tup e r)
  · obtain ⟨S2, t2, r2⟩ := new_tup S hp (r.append r')
    exact q _ M _ _ k S2 t2 r2
/-- l + m -/
theorem o_catL {p p2 : Addr} {ds es : List D} (h1 : (p, .lst ds) ∈ M) (h2 : (p2, .lst es) ∈ M) (hl : ds.length + es.length ≤ 10000000) (k : ∀ l, R (.obj l) ((l, .lst (ds ++ es)) :: M)) : Op2 A rCat (.obj p) (.obj p2) G M R := fun σ H v u S rv ru Q q => by
  cases rv.obj_inv
  cases ru.obj_inv
  obtain ⟨xs, e, r⟩ := S.box _ h1
  obtain ⟨ys, e', r'⟩ := S.box _ h2
  refine ⟨p, p2, xs, ys, rfl, rfl, e, e', sz_of (by rw [r.length, r'.length]; exact hl), fun l hl => ?_⟩
  obtain ⟨S2, t2, r2⟩ := new_lst S hl (r.append r')
  exact q _ _ _ _ (k l) S2 t2 r2
end
/-! ### slices -/
theorem wo_none {RO : Option Int → Bxs → Prop} (h : RO none M) : Wo A tNoPart G M RO := fun σ H S Q q => q none M H h S (.refl _)
theorem wo_some {RO : Option Int → Bxs → Prop} (h : We A te G M fun x M1 => ∃ i, x = .int i ∧ RO (some i) M1) : Wo A (tPart te) G M RO := fun σ H S Q q =>
  h σ H S _ fun x M1 v H1 ⟨i, e, k⟩ S1 t1 r1 => by subst e; exact ⟨i, r1.int_inv, q _ M1 H1 k S1 t1⟩
def cutD (xs : List D) (lo hi : Option Int) : List D := (xs.drop (HT.sIx xs.length 0 lo)).take (HT.sIx xs.length xs.length hi - HT.sIx xs.length 0 lo)
theorem Rvs.cut {H : Hp} {vs : List V} {ds : List D} (r : Rvs H vs ds) (lo hi : Option Int) : Rvs H (cutV vs lo hi) (cutD ds lo hi) := by
  unfold cutV cutD
  rw [r.length]
  exact (r.drop _).take _
def Sl (A : Am) (r : V → Option Int → Option Int → Hp → VK → Prop) (x : D) (lo hi : Option Int) (G : Gm) (M : Bxs) (R : D → Bxs → Prop) : Prop := ∀ σ H v, Sit A G M σ H → Rv H v x → ∀ Q : VK, (∀ d M' w H', R d M' → Sit A G M' σ H' → TEx H H' → Rv H' w d → Q w H') → r v lo hi H Q
theorem w_sl {r : V → Option Int → Option Int → Hp → VK → Prop} {tl th : TO} (h : We A te G M fun x M1 => Wo A tl G M1 fun lo M2 => Wo A th G M2 fun hi M3 => Sl A r x lo hi G M3 R) : We A (tSl r te tl th) G M R := fun σ H S Q q =>
  h σ H S _ fun x M1 v H1 k S1 t1 r1 => k σ H1 S1 _ fun lo M2 H2 k2 S2 t2 => k2 σ H2 S2 _ fun hi M3 H3 k3 S3 t3 => k3 σ H3 v S3 ((r1.mono t2).mono t3) Q fun d M' w H' z S' t' r' => q d M' w H' z S' (((t1.trans t2).trans t3).trans t') r'
theorem sl_T {ds : List D} {lo hi : Option Int} (k : R (.tup (cutD ds lo hi)) M) : Sl A (rSlA A.K) (.tup ds) lo hi G M R := fun σ H v S rv Q q => by
  obtain ⟨a, xs, rfl, e, r⟩ := rv.tup_inv
  refine ⟨a, xs, rfl, .of e, fun hw => ?_, fun hw p hp => ?_⟩
  · have hc : cutD ds lo hi = ds := by
      unfold cutD
      rw [← r.length, hw.1, hw.2, List.drop_zero, Nat.sub_zero, r.length, List.take_length]
    rw [hc] at k
    exact q _ M _ H k S (.refl _) (.tup e r)
  · obtain ⟨S2, t2, r2⟩ := new_tup S hp (r.cut lo hi)
    exact q _ M _ _ k S2 t2 r2
theorem sl_L {p : Addr} {b : Box} {ds : List D} {lo hi : Option Int} (hm : (p, b) ∈ M) (hb : b.rb = .l ds) (k : ∀ l, R (.obj l) ((l, .lst (cutD ds lo hi)) :: M)) : Sl A (rSlL A.K) (.obj p) lo hi G M R := fun σ H v S rv Q q => by
  cases rv.obj_inv
  obtain ⟨xs, e, r⟩ := (S.box _ hm).seq hb
  refine ⟨p, xs, rfl, e, fun l hl => ?_⟩
  obtain ⟨S2, t2, r2⟩ := new_lst S hl (r.cut lo hi)
  exact q _ _ _ _ (k l) S2 t2 r2
theorem sl_inl {r r' : V → Option Int → Option Int → Hp → VK → Prop} {x : D} {lo hi : Option Int} (h : Sl A r x lo hi G M R) : Sl A (fun x lo hi H Q => r x lo hi H Q ∨ r' x lo hi H Q) x lo hi G M R := fun σ H v S rv Q q => .inl (h σ H v S rv Q q)
theorem sl_inr {r r' : V → Option Int → Option Int → Hp → VK → Prop} {x : D} {lo hi : Option Int} (h : Sl A r' x lo hi G M R) : Sl A (fun x lo hi H Q => r x lo hi H Q ∨ r' x lo hi H Q) x lo hi G M R := fun σ H v S rv Q q => .inr (h σ H v S rv Q q)

/-! ### calls of built-ins -/
section
variable {ds : List D} {p : Addr}
theorem c_inl {r r' : List V → Hp → VK → Prop} (h : Cl A r ds G M R) : Cl A (fun xs H Q => r xs H Q ∨ r' xs H Q) ds G M R := fun σ H v S rv Q q => .inl (h σ H v S rv Q q)
theorem c_inr {r r' : List V → Hp → VK → Prop} (h : Cl A r' ds G M R) : Cl A (fun xs H Q => r xs H Q ∨ r' xs H Q) ds G M R := fun σ H v S rv Q q => .inr (h σ H v S rv Q q)
def rLenS (K : PySem.W.Frag) : List V → Hp → VK → Prop := fun xs H Q => ∃ p ys, xs = [.ref p] ∧ (SqL K H p ys ∨ SqT K H p ys) ∧ Q (.int ys.length) H
theorem call_lenS {X : Cx} : CallR X (.builtin "len") (rLenS X.K) := call_len_seq
theorem Rvs.one_inv {H : Hp} {vs : List V} {d : D} (r : Rvs H vs [d]) : ∃ v, vs = [v] ∧ Rv H v d := by
  cases r with
  | cons h t => cases t; exact ⟨_, rfl, h⟩
theorem Rvs.two_inv {H : Hp} {vs : List V} {d e : D} (r : Rvs H vs [d, e]) : ∃ v u, vs = [v, u] ∧ Rv H v d ∧ Rv H u e := by
  cases r with
  | cons h t => obtain ⟨u, rfl, hu⟩ := t.one_inv; exact ⟨_, _, rfl, h, hu⟩
theorem c_lenT (k : R (.int (ds.length : Int)) M) : Cl A (rLenS A.K) [.tup ds] G M R := fun σ H vs S rv Q q => by
  obtain ⟨v, rfl, h⟩ := rv.one_inv
  obtain ⟨a, xs, rfl, e, r⟩ := h.tup_inv
  exact ⟨a, xs, rfl, .inr (.of e), q _ M _ H k S (.refl _) (by rw [r.length]; exact .int _)⟩
theorem c_lenL {b : Box} (hm : (p, b) ∈ M) (hb : b.rb = .l ds) (k : R (.int (ds.length : Int)) M) : Cl A (rLenS A.K) [.obj p] G M R := fun σ H vs S rv Q q => by
  obtain ⟨v, rfl, h⟩ := rv.one_inv
  cases h.obj_inv
  obtain ⟨xs, e, r⟩ := (S.box _ hm).seq hb
  exact ⟨p, xs, rfl, .inl e, q _ M _ H k S (.refl _) (by rw [r.length]; exact .int _)⟩
def rTupS (K : PySem.W.Frag) : List V → Hp → VK → Prop := fun xs H Q => ∃ p ys, xs = [.ref p] ∧ ((SqL K H p ys ∧ ∀ l, H l = none → Q (.ref l) (upd H l (.tup ys))) ∨ (SqT K H p ys ∧ Q (.ref p) H))
theorem call_tupS {X : Cx} : CallR X (.type "tuple") (rTupS X.K) := call_tuple_of
theorem c_tupL {b : Box} (hm : (p, b) ∈ M) (hb : b.rb = .l ds) (k : R (.tup ds) M) : Cl A (rTupS A.K) [.obj p] G M R := fun σ H vs S rv Q q => by
  obtain ⟨v, rfl, h⟩ := rv.one_inv
  cases h.obj_inv
  obtain ⟨xs, e, r⟩ := (S.box _ hm).seq hb
  refine ⟨p, xs, rfl, .inl ⟨e, fun l hl => ?_⟩⟩
  obtain ⟨S2, t2, r2⟩ := new_tup S hl r
  exact q _ M _ _ k S2 t2 r2
def rListS (K : PySem.W.Frag) : List V → Hp → VK → Prop := fun xs H Q => ∃ p ys, xs = [.ref p] ∧ (SqL K H p ys ∨ SqT K H p ys) ∧ ∀ l, H l = none → Q (.ref l) (upd H l (.lst ys))
theorem call_listS {X : Cx} : CallR X (.type "list") (rListS X.K) := call_list_of
theorem c_listT (k : ∀ l, R (.obj l) ((l, .lst ds) :: M)) : Cl A (rListS A.K) [.tup ds] G M R := fun σ H vs S rv Q q => by
  obtain ⟨v, rfl, h⟩ := rv.one_inv
  obtain ⟨a, xs, rfl, e, r⟩ := h.tup_inv
  refine ⟨a, xs, rfl, .inr (.of e), fun l hl => ?_⟩
  obtain ⟨S2, t2, r2⟩ := new_lst S hl r
  exact q _ _ _ _ (k l) S2 t2 r2
theorem c_listL {b : Box} (hm : (p, b) ∈ M) (hb : b.rb = .l ds) (k : ∀ l, R (.obj l) ((l, .lst ds) :: M)) : Cl A (rListS A.K) [.obj p] G M R := fun σ H vs S rv Q q => by
  obtain ⟨v, rfl, h⟩ := rv.one_inv
  cases h.obj_inv
  obtain ⟨xs, e, r⟩ := (S.box _ hm).seq hb
  refine ⟨p, xs, rfl, .inl e, fun l hl => ?_⟩
  obtain ⟨S2, t2, r2⟩ := new_lst S hl r
  exact q _ _ _ _ (k l) S2 t2 r2
theorem c_sortedI {b : Box} {ns : List Int} (hm : (p, b) ∈ M) (hb : b.rb = .l (ns.map D.int)) (k : ∀ (l : Addr) (ns' : List Int), ns'.Perm ns → ns'.Pairwise (· ≤ ·) → R (.obj l) ((l, .lst (ns'.map D.int)) :: M)) : Cl A (rSortedI A.K) [.obj p] G M R := fun σ H vs S rv Q q => by
  obtain ⟨v, rfl, h⟩ := rv.one_inv
  cases h.obj_inv
  obtain ⟨xs, e, r⟩ := (S.box _ hm).seq hb
  cases r.ints
  refine ⟨p, ns, rfl, e, fun ns' l h1 h2 hl => ?_⟩
  obtain ⟨S2, t2, r2⟩ := new_lst S hl (Rvs.of_ints (H := H) (ns := ns'))
  exact q _ _ _ _ (k l ns' h1 h2) S2 t2 r2
end
end
end Mv

/-! Base3: dicts, methods, isinstance, ==, statements, loops. -/
namespace Mv
open PySem PySem.Spec PyProof.Rows L2

/-! ### keys -/
def kD : Key → D
  | .inl i => .int i
  | .inr x => .str x
def keyD (ks : List Key) : D := .tup (ks.map kD)
theorem Rv.kD_inv {H : Hp} {v : V} {k : Key} (h : Rv H v (kD k)) : v = kV k := by
  cases k with
  | inl i => exact h.int_inv
  | inr x => exact h.str_inv
theorem Rvs.kD_inv {H : Hp} : ∀ {vs : List V} {ks : List Key}, Rvs H vs (ks.map kD) → vs = ks.map kV
  | _, [], .nil => rfl
  | _, k :: ks, .cons h t => by rw [h.kD_inv, Rvs.kD_inv t]; rfl
theorem Rv.key_inv {H : Hp} {v : V} {ks : List Key} (h : Rv H v (keyD ks)) : ∃ b, v = .ref b ∧ H b = some (.tup (ks.map kV)) := by
  obtain ⟨a, xs, rfl, e, r⟩ := h.tup_inv
  rw [r.kD_inv] at e
  exact ⟨a, rfl, e⟩
section
variable {κ : Type} [DecidableEq κ]
def lookD (kvs : List (κ × D)) (k : κ) : Option D := (kvs.find? fun kv => decide (kv.1 = k)).map (·.2)
def putD (kvs : List (κ × D)) (k : κ) (v : D) : List (κ × D) :=
  if (kvs.any fun kv => decide (kv.1 = k)) = true then kvs.map (fun kv => if kv.1 = k then (kv.1, v) else kv) else kvs ++ [(k, v)]
theorem Kvs.look {H : Hp} {k : κ} : ∀ {ws : List (κ × V)} {kvs : List (κ × D)}, Kvs H ws kvs → (lookD kvs k = none ∧ valV ws k = none) ∨ ∃ d v, lookD kvs k = some d ∧ valV ws k = some v ∧ Rv H v d
  | _, _, .nil => .inl ⟨rfl, rfl⟩
  | (a, v) :: ws, (b, d) :: kvs, .cons h t => by
    have e : a = b := h.1
    subst e
    by_cases hk : a = k
    · exact .inr ⟨d, v, by simp [lookD, hk], by simp [valV, hk], h.2⟩
    · have ih := Kvs.look (k := k) t
      have e1 : lookD ((a, d) :: kvs) k = lookD kvs k := by simp [lookD, hk]
      have e2 : valV ((a, v) :: ws) k = valV ws k := by simp [valV, hk]
      rw [e1, e2]; exact ih
theorem Kvs.any {H : Hp} {k : κ} : ∀ {ws : List (κ × V)} {kvs : List (κ × D)}, Kvs H ws kvs → (ws.any fun kv => decide (kv.1 = k)) = kvs.any fun kv => decide (kv.1 = k)
  | _, _, .nil => rfl
  | _ :: _, _ :: _, .cons h t => by rw [List.any_cons, List.any_cons, Kvs.any t, h.1]
theorem Kvs.length {H : Hp} : ∀ {ws : List (κ × V)} {kvs : List (κ × D)}, Kvs H ws kvs → ws.length = kvs.length
  | _, _, .nil => rfl
  | _ :: _, _ :: _, .cons _ t => by simp [Kvs.length t]
theorem Kvs.mapPut {H : Hp} {k : κ} {v : V} {d : D} (r : Rv H v d) : ∀ {ws : List (κ × V)} {kvs : List (κ × D)}, Kvs H ws kvs → Kvs H (ws.map fun kv => if kv.1 = k then (kv.1, v) else kv) (kvs.map fun kv => if kv.1 = k then (kv.1, d) else kv)
  | _, _, .nil => .nil
  | (a, w) :: ws, (b, e) :: kvs, .cons h t => by
    have q : a = b := h.1
    subst q
    refine .cons ?_ (Kvs.mapPut r t)
    show (if a = k then (a, v) else (a, w)).1 = (if a = k then (a, d) else (a, e)).1 ∧ Rv H (if a = k then (a, v) else (a, w)).2 (if a = k then (a, d) else (a, e)).2
    split
    · exact ⟨rfl, r⟩
    · exact ⟨rfl, h.2⟩
theorem Kvs.snoc {H : Hp} {k : κ} {v : V} {d : D} (r : Rv H v d) : ∀ {ws : List (κ × V)} {kvs : List (κ × D)}, Kvs H ws kvs → Kvs H (ws ++ [(k, v)]) (kvs ++ [(k, d)])
  | _, _, .nil => .cons ⟨rfl, r⟩ .nil
  | _ :: _, _ :: _, .cons h t => .cons h (Kvs.snoc r t)
theorem Kvs.put {H : Hp} {k : κ} {v : V} {d : D} (r : Rv H v d) {ws : List (κ × V)} {kvs : List (κ × D)} (h : Kvs H ws kvs) : Kvs H (putK ws k v) (putD kvs k d) := by
  unfold putK putD
  rw [h.any]
  split
  · exact h.mapPut r
  · exact h.snoc r
end

/-! ### == -/
mutual
def D.py : D → PyData
  | .non => .none
  | .bl b => .bool b
  | .int i => .int i
  | .str x => .str x
  | .tup ds => .tuple (D.pys ds)
  | .obj _ => .none
  | .ty _ => .none
def D.pys : List D → List PyData
  | [] => []
  | d :: ds => d.py :: D.pys ds
end
mutual
/-- no object in it -/
def D.cl : D → Bool
  | .obj _ => false
  | .ty _ => false
  | .tup ds => D.cls ds
  | _ => true
def D.cls : List D → Bool
  | [] => true
  | d :: ds => d.cl && D.cls ds
end
mutual
theorem Rv.dp {K : PySem.W.Frag} {H : Hp} : ∀ {v : V} {d : D}, Rv H v d → d.cl = true → Dp K H v d.py
  | _, _, .non, _ => .non
  | _, _, .bl b, _ => .bl b
  | _, _, .int i, _ => .int i
  | _, _, .str x, _ => .str x
  | _, _, .tup e h, c => .tup (.of e) (Rvs.dp h c)
  | _, _, .obj _, c => nomatch c
  | _, _, .ty _, c => nomatch c
theorem Rvs.dp {K : PySem.W.Frag} {H : Hp} : ∀ {vs : List V} {ds : List D}, Rvs H vs ds → D.cls ds = true → DpAll K H vs (D.pys ds)
  | _, _, .nil, _ => .nil
  | _, _, .cons h t, c => .cons (Rv.dp h (Bool.and_eq_true_iff.mp c).1) (Rvs.dp t (Bool.and_eq_true_iff.mp c).2)
end
def okD (d : D) : Bool := d.cl && SeqAt.shaped d.py
def eqD (x y : D) : Bool := PyData.eqv x.py y.py
section
variable {A : Am} {G : Gm} {M : Bxs} {ta tb te tc td ty tx tv : TE} {t u : TT} {R : D → Bxs → Prop} {RB : Bool → Bxs → Prop} {RA : List D → Bxs → Prop} {x y : D}
theorem o_eq (hx : okD x = true) (hy : okD y = true) (k : R (.bl (eqD x y)) M) : Op2 A (rEqD A.K) x y G M R := fun σ H v u S rv ru Q q =>
  let hx' := Bool.and_eq_true_iff.mp hx
  let hy' := Bool.and_eq_true_iff.mp hy
  ⟨_, _, rv.dp hx'.1, ru.dp hy'.1, hx'.2, hy'.2, q _ M _ H k S (.refl _) (.bl _)⟩
theorem o_ne (hx : okD x = true) (hy : okD y = true) (k : R (.bl (!eqD x y)) M) : Op2 A (rNeD A.K) x y G M R := fun σ H v u S rv ru Q q =>
  let hx' := Bool.and_eq_true_iff.mp hx
  let hy' := Bool.and_eq_true_iff.mp hy
  ⟨_, _, rv.dp hx'.1, ru.dp hy'.1, hx'.2, hy'.2, q _ M _ H k S (.refl _) (.bl _)⟩
/-- lists -/
theorem o_neL {p p2 : Addr} {b b2 : Box} {ds es : List D} (h1 : (p, b) ∈ M) (h2 : (p2, b2) ∈ M) (e1 : b.rb = .l ds) (e2 : b2.rb = .l es) (hx : okD (.tup ds) = true) (hy : okD (.tup es) = true)
    (k : R (.bl (!eqD (.tup ds) (.tup es))) M) : Op2 A (rNeD A.K) (.obj p) (.obj p2) G M R := fun σ H v u S rv ru Q q => by
  cases rv.obj_inv
  cases ru.obj_inv
  obtain ⟨xs, e, r⟩ := (S.box _ h1).seq e1
  obtain ⟨ys, e', r'⟩ := (S.box _ h2).seq e2
  have hx' := Bool.and_eq_true_iff.mp hx
  have hy' := Bool.and_eq_true_iff.mp hy
  exact ⟨.list (D.pys ds), .list (D.pys es), .lst e (r.dp hx'.1), .lst e' (r'.dp hy'.1), hx'.2, hy'.2, q _ M _ H k S (.refl _) (.bl _)⟩
/-- is None -/
def isNon : D → Bool
  | .non => true
  | _ => false
theorem Rv.isNon {H : Hp} {v : V} {d : D} (h : Rv H v d) : decide (v = .non) = isNon d := by
  cases h <;> first | rfl | simp [Mv.isNon]
def rIsN : R2 := fun x y H Q => y = .non ∧ Q (.bl (decide (x = .non))) H
theorem op_isN' {X : Cx} : OpR X (compareOp .Is) rIsN := op_isN
theorem o_isN (k : R (.bl (isNon x)) M) : Op2 A rIsN x .non G M R := fun σ H v u S rv ru Q q =>
  ⟨ru.non_inv, by rw [rv.isNon]; exact q _ M _ H k S (.refl _) (.bl _)⟩
/-! ### isinstance -/
def kindD : D → Bxs → Option String
  | .non, _ => some "NoneType"
  | .bl _, _ => some "bool"
  | .int _, _ => some "int"
  | .str _, _ => some "str"
  | .tup _, _ => some "tuple"
  | _, _ => none
theorem Rv.tyx {K : PySem.W.Frag} {H : Hp} {v : V} {d : D} {n : String} (h : Rv H v d) (e : kindD d M = some n) : TyX K H v (.type n) := by
  cases h with
  | non => cases e; exact .base .non
  | bl b => cases e; exact .base (.bl b)
  | int i => cases e; exact .base (.int i)
  | str x => cases e; exact .base (.str x)
  | tup e' h => cases e; exact .base (.tup e')
  | obj a => cases e
  | ty n => cases e
theorem c_isi {n m : String} {b : Bool} (e : kindD x M = some n) (hb : kitB n m = some b) (k : R (.bl b) M) : Cl A (rIsi A.K) [x, .ty m] G M R := fun σ H vs S rv Q q => by
  obtain ⟨v, u, rfl, h, h'⟩ := rv.two_inv
  cases h'.ty_inv
  exact ⟨v, .ty m, _, _, b, rfl, .ty m, h.tyx e, kit_ty hb, q _ M _ H k S (.refl _) (.bl b)⟩
theorem c_isiL {p : Addr} {ds : List D} {m : String} {b : Bool} (e : (p, .lst ds) ∈ M) (hb : kitB "list" m = some b) (k : R (.bl b) M) : Cl A (rIsi A.K) [.obj p, .ty m] G M R := fun σ H vs S rv Q q => by
  obtain ⟨v, u, rfl, h, h'⟩ := rv.two_inv
  cases h'.ty_inv
  cases h.obj_inv
  obtain ⟨xs, e1, r⟩ := S.box _ e
  exact ⟨_, .ty m, _, _, b, rfl, .ty m, .base (.lst e1), kit_ty hb, q _ M _ H k S (.refl _) (.bl b)⟩
theorem w_ty {n : String} (k : R (.ty n) M) : We A (tC (.ty n)) G M R := fun σ H S Q q => q _ M _ H k S (.refl _) (.ty n)

/-! ### methods -/
theorem w_append {to : TE} (h : We A to G M fun x M1 => ∃ p ds0, x = .obj p ∧ (p, Box.lst ds0) ∈ M1 ∧ We A te G M1 fun d M2 => ∃ ds M3, Up p (.lst ds) (.lst (ds ++ [d])) M2 M3 ∧ ds.length < 10000000 ∧ R .non M3) :
    We A (tBM A.K "list" rAppend to (tCons te tNil)) G M R := fun σ H S Q q =>
  h σ H S _ fun x M1 v H1 ⟨p, ds0, ex, hm, k⟩ S1 t1 r1 => by
    subst ex
    cases r1.obj_inv
    obtain ⟨xs0, e0, _⟩ := S1.box _ hm
    refine ⟨.inl ⟨rfl, _, .of e0⟩, k σ H1 S1 _ fun d M2 w H2 ⟨ds, M3, hu, hl, k2⟩ S2 t2 r2 => ?_⟩
    obtain ⟨xs, e, r⟩ := S2.box _ hu.mem
    have t3 := S2.tex_write (o := .lst (xs ++ [w])) hu.mem rfl
    exact ⟨p, xs, w, rfl, rfl, e, sz_lt (by rw [r.length]; exact hl), q _ M3 _ _ k2 (S2.write hu rfl rfl ⟨_, upd_same, (r.snoc r2).mono t3⟩) ((t1.trans t2).trans t3) .non⟩
theorem w_extend {to : TE} (h : We A to G M fun x M1 => ∃ p ds0, x = .obj p ∧ (p, Box.lst ds0) ∈ M1 ∧ We A te G M1 fun d M2 => ∃ p2 ds es M3, d = .obj p2 ∧ (p2, Box.lst es) ∈ M2 ∧ Up p (.lst ds) (.lst (ds ++ es)) M2 M3 ∧ ds.length + es.length ≤ 10000000 ∧ R .non M3) :
    We A (tBM A.K "list" rExtend to (tCons te tNil)) G M R := fun σ H S Q q =>
  h σ H S _ fun x M1 v H1 ⟨p, ds0, ex, hm, k⟩ S1 t1 r1 => by
    subst ex
    cases r1.obj_inv
    obtain ⟨xs0, e0, _⟩ := S1.box _ hm
    refine ⟨.inl ⟨rfl, _, .of e0⟩, k σ H1 S1 _ fun d M2 w H2 ⟨p2, ds, es, M3, ed, hm2, hu, hl, k2⟩ S2 t2 r2 => ?_⟩
    subst ed
    cases r2.obj_inv
    obtain ⟨xs, e, r⟩ := S2.box _ hu.mem
    obtain ⟨ys, e', r'⟩ := S2.box _ hm2
    have t3 := S2.tex_write (o := .lst (xs ++ ys)) hu.mem rfl
    exact ⟨p, p2, xs, ys, rfl, rfl, e, e', sz_of (by rw [r.length, r'.length]; exact hl), q _ M3 _ _ k2 (S2.write hu rfl rfl ⟨_, upd_same, (r.append r').mono t3⟩) ((t1.trans t2).trans t3) .non⟩
theorem strs_of : ∀ {H : Hp} {xs : List V} {zs : List Str}, Rvs H xs (zs.map D.str) → xs = zs.map V.str
  | _, _, [], .nil => rfl
  | _, _, z :: zs, .cons h t => by rw [h.str_inv, strs_of t]; rfl
/-- x in, not in a list of texts -/
theorem o_notInL {p : Addr} {zs : List Str} {z : Str} (hm : (p, Box.lst (zs.map D.str)) ∈ M) (k : R (.bl (!decide (z ∈ zs))) M) : Op2 A (rIn A.K true) (.str z) (.obj p) G M R := fun σ H v u S rv ru Q q => by
  cases rv.str_inv
  cases ru.obj_inv
  obtain ⟨xs, e, r⟩ := S.box _ hm
  have ex := strs_of r
  subst ex
  refine ⟨p, _, rfl, .inl (.of e), rfl, ?_, ?_⟩
  · clear hm r k e
    induction zs with
    | nil => rfl
    | cons a b ih => simpa [flatV] using ih
  · have e2 : inV (.str z) (zs.map V.str) = decide (z ∈ zs) := by
      clear hm r k e
      induction zs with
      | nil => rfl
      | cons a b ih =>
        unfold inV at ih ⊢
        rw [List.map_cons, List.any_cons, ih]
        by_cases h1 : a = z
        · subst h1; simp [eqV]
        · have h2 : ¬ z = a := fun q => h1 q.symm
          simp [eqV, h1, h2]
    rw [e2]
    exact q _ M _ H k S (.refl _) (.bl _)
/-! ### dicts -/
theorem dget_t {σ : L2.St} {H : Hp} {p : Addr} {b : Box} {kvs : List (List Key × D)} {k : List Key} {v : V} (S : Sit A G M σ H) (hm : (p, b) ∈ M) (hb : b.rb = .t kvs) (r : Rv H v (keyD k)) :
    ∃ o, DGet H p v o ∧ ((lookD kvs k = none ∧ o = none) ∨ ∃ d w, lookD kvs k = some d ∧ o = some w ∧ Rv H w d) := by
  obtain ⟨ws, e, q⟩ := (S.box _ hm).tab hb
  obtain ⟨c, rfl, eb⟩ := r.key_inv
  exact ⟨_, .inr ⟨ws, k, c, e, rfl, eb, rfl⟩, q.look⟩
theorem dget_k {σ : L2.St} {H : Hp} {p : Addr} {b : Box} {kvs : List (Key × D)} {k : Key} {v : V} (S : Sit A G M σ H) (hm : (p, b) ∈ M) (hb : b.rb = .k kvs) (r : Rv H v (kD k)) :
    ∃ o, DGet H p v o ∧ ((lookD kvs k = none ∧ o = none) ∨ ∃ d w, lookD kvs k = some d ∧ o = some w ∧ Rv H w d) := by
  obtain ⟨ws, e, q⟩ := (S.box _ hm).tabk hb
  cases r.kD_inv
  exact ⟨_, .inl ⟨ws, k, e, rfl, rfl⟩, q.look⟩
/-- what the dict at p holds at y -/
def LookAt (M : Bxs) (p : Addr) (y : D) (o : Option D) : Prop := (∃ b kvs k, (p, b) ∈ M ∧ Box.rb b = .t kvs ∧ y = keyD k ∧ lookD kvs k = o) ∨ ∃ b kvs k, (p, b) ∈ M ∧ Box.rb b = .k kvs ∧ y = kD k ∧ lookD kvs k = o
theorem LookAt.ofT {p : Addr} {b : Box} {kvs : List (List Key × D)} {k : List Key} {o : Option D} (h : (p, b) ∈ M) (hb : b.rb = .t kvs) (e : lookD kvs k = o) : LookAt M p (keyD k) o := .inl ⟨b, kvs, k, h, hb, rfl, e⟩
theorem LookAt.ofK {p : Addr} {b : Box} {kvs : List (Key × D)} {k : Key} {o : Option D} (h : (p, b) ∈ M) (hb : b.rb = .k kvs) (e : lookD kvs k = o) : LookAt M p (kD k) o := .inr ⟨b, kvs, k, h, hb, rfl, e⟩
theorem LookAt.get {σ : L2.St} {H : Hp} {p : Addr} {v : V} {y : D} {od : Option D} (S : Sit A G M σ H) (h : LookAt M p y od) (r : Rv H v y) :
    ∃ o, DGet H p v o ∧ ((od = none ∧ o = none) ∨ ∃ d w, od = some d ∧ o = some w ∧ Rv H w d) := by
  rcases h with ⟨b, kvs, k, hm, hb, rfl, rfl⟩ | ⟨b, kvs, k, hm, hb, rfl, rfl⟩
  · exact dget_t S hm hb r
  · exact dget_k S hm hb r
/-- a dict of any kind stands at p -/
def IsTab (M : Bxs) (p : Addr) : Prop := ∃ b, (p, b) ∈ M ∧ ((∃ kvs, Box.rb b = .t kvs) ∨ ∃ kvs, Box.rb b = .k kvs)
theorem IsTab.isD {σ : L2.St} {H : Hp} {p : Addr} (S : Sit A G M σ H) (h : IsTab M p) : IsD H p := by
  obtain ⟨b, hm, ⟨kvs, hb⟩ | ⟨kvs, hb⟩⟩ := h
  · obtain ⟨ws, e, _⟩ := (S.box _ hm).tab hb
    exact .inr ⟨ws, e⟩
  · obtain ⟨ws, e, _⟩ := (S.box _ hm).tabk hb
    exact .inl ⟨ws, e⟩
theorem w_dget (h : We A td G M fun x M1 => We A ty G M1 fun y M2 => ∃ p d, x = .obj p ∧ LookAt M2 p y (some d) ∧ R d M2) : We A (tDGet td ty) G M R := fun σ H S Q q =>
  h σ H S _ fun x M1 v H1 k S1 t1 r1 => k σ H1 S1 _ fun y M2 u H2 ⟨p, d, ex, hl, kk⟩ S2 t2 r2 => by
    subst ex
    cases r1.obj_inv
    obtain ⟨o, g, ⟨z, _⟩ | ⟨d', w, e1, rfl, rw'⟩⟩ := hl.get S2 r2
    · cases z
    · cases e1
      exact ⟨p, w, rfl, g, q _ M2 _ H2 kk S2 (t1.trans t2) rw'⟩
theorem w_din (h : We A ty G M fun y M1 => We A td G M1 fun x M2 => ∃ p o, x = .obj p ∧ LookAt M2 p y o ∧ R (.bl o.isSome) M2) : We A (tDIn ty td) G M R := fun σ H S Q q =>
  h σ H S _ fun y M1 v H1 k S1 t1 r1 => k σ H1 S1 _ fun x M2 u H2 ⟨p, o, ex, hl, kk⟩ S2 t2 r2 => by
    subst ex
    cases r2.obj_inv
    obtain ⟨o', g, ⟨rfl, rfl⟩ | ⟨d', w, rfl, rfl, rw'⟩⟩ := hl.get S2 (r1.mono t2)
    · exact ⟨p, _, rfl, g, q _ M2 _ H2 kk S2 (t1.trans t2) (.bl _)⟩
    · exact ⟨p, _, rfl, g, q _ M2 _ H2 kk S2 (t1.trans t2) (.bl _)⟩
theorem w_dnotin (h : We A ty G M fun y M1 => We A td G M1 fun x M2 => ∃ p o, x = .obj p ∧ LookAt M2 p y o ∧ R (.bl (!o.isSome)) M2) : We A (tDNotIn ty td) G M R := fun σ H S Q q =>
  h σ H S _ fun y M1 v H1 k S1 t1 r1 => k σ H1 S1 _ fun x M2 u H2 ⟨p, o, ex, hl, kk⟩ S2 t2 r2 => by
    subst ex
    cases r2.obj_inv
    obtain ⟨o', g, ⟨rfl, rfl⟩ | ⟨d', w, rfl, rfl, rw'⟩⟩ := hl.get S2 (r1.mono t2)
    · exact ⟨p, _, rfl, g, q _ M2 _ H2 kk S2 (t1.trans t2) (.bl _)⟩
    · exact ⟨p, _, rfl, g, q _ M2 _ H2 kk S2 (t1.trans t2) (.bl _)⟩
/-! ### statements -/
section
variable {nx : L2.St → Hp → Prop} {rt : VK} {bk ct : L2.St → Hp → Prop} {ts us : TS} {g : TG}
theorem ns_seq (h : Ns A (ts ⟨us ⟨nx, rt, bk, ct⟩, rt, bk, ct⟩) G M) : Ns A (tSeq ts us ⟨nx, rt, bk, ct⟩) G M := h
theorem ns_next (h : Ns A nx G M) : Ns A (tNext ⟨nx, rt, bk, ct⟩) G M := h
theorem ns_brk (h : Ns A bk G M) : Ns A (tBreak ⟨nx, rt, bk, ct⟩) G M := h
theorem ns_asg {i : Nat} (h : We A te G M fun d M1 => Ns A nx (G.set i (some d)) M1) : Ns A (tAsg te (gName i) ⟨nx, rt, bk, ct⟩) G M := fun σ H S =>
  h σ H S _ fun d M1 v H1 k S1 t1 r1 => k _ _ (S1.slot i r1)
theorem ns_drop (h : We A te G M fun d M1 => Ns A nx G M1) : Ns A (tDrop te ⟨nx, rt, bk, ct⟩) G M := fun σ H S =>
  h σ H S _ fun d M1 v H1 k S1 t1 r1 => k _ _ S1
theorem ns_ret (h : We A te G M fun d M1 => Rt A rt G d M1) : Ns A (tRet te ⟨nx, rt, bk, ct⟩) G M := fun σ H S =>
  h σ H S _ fun d M1 v H1 k S1 t1 r1 => k _ _ v S1 r1
theorem ns_if (h : Wt A t G M fun b M1 => (b = true → Ns A (ts ⟨nx, rt, bk, ct⟩) G M1) ∧ (b = false → Ns A (us ⟨nx, rt, bk, ct⟩) G M1)) : Ns A (tIfS t ts us ⟨nx, rt, bk, ct⟩) G M := fun σ H S =>
  h σ H S _ fun b M1 H1 ⟨ky, kn⟩ S1 t1 => by
    cases b with
    | true => rw [if_pos rfl]; exact ky rfl σ H1 S1
    | false => rw [if_neg (by simp)]; exact kn rfl σ H1 S1
/-- l[i] = e -/
theorem ns_setL {to ti : TE} (h : We A te G M fun d M1 => We A to G M1 fun x M2 => We A ti G M2 fun y M3 => ∃ p ds i j M4, x = .obj p ∧ y = .int i ∧ ixN ds.length i = some j ∧ Up p (.lst ds) (.lst (ds.set j d)) M3 M4 ∧ Ns A nx G M4) :
    Ns A (tAsg te (gSub to ti rSetL) ⟨nx, rt, bk, ct⟩) G M := fun σ H S =>
  h σ H S _ fun d M1 v H1 k S1 t1 r1 => k σ H1 S1 _ fun x M2 o H2 k2 S2 t2 r2 => k2 σ H2 S2 _ fun y M3 u H3 ⟨p, ds, i, j, M4, ex, ey, hj, hu, kk⟩ S3 t3 r3 => by
    subst ex ey
    cases r2.obj_inv
    cases r3.int_inv
    obtain ⟨xs, e, r⟩ := S3.box _ hu.mem
    have t4 := S3.tex_write (o := .lst (xs.set j v)) hu.mem rfl
    exact ⟨p, xs, i, j, rfl, rfl, e, by rw [r.length]; exact hj, kk _ _ (S3.write hu rfl rfl ⟨_, upd_same, (Rvs.set ((r1.mono t2).mono t3) j r).mono t4⟩)⟩
/-- d[y] = v -/
inductive PutAt (p : Addr) (y v : D) : Bxs → Bxs → Prop
  | ofT {kvs : List (List Key × D)} {k : List Key} {M M' : Bxs} (e : y = keyD k) (hl : kvs.length < 10000000) (u : Up p (.dt kvs) (.dt (putD kvs k v)) M M') : PutAt p y v M M'
  | ofK {kvs : List (Key × D)} {k : Key} {M M' : Bxs} (e : y = kD k) (hl : kvs.length < 10000000) (u : Up p (.dk kvs) (.dk (putD kvs k v)) M M') : PutAt p y v M M'
theorem ns_dput (h : We A tv G M fun d M1 => We A td G M1 fun x M2 => We A ty G M2 fun y M3 => ∃ p M4, x = .obj p ∧ PutAt p y d M3 M4 ∧ Ns A nx G M4) : Ns A (sDPut td ty tv ⟨nx, rt, bk, ct⟩) G M := fun σ H S =>
  h σ H S _ fun d M1 v H1 k S1 t1 r1 => k σ H1 S1 _ fun x M2 o H2 k2 S2 t2 r2 => k2 σ H2 S2 _ fun y M3 u H3 ⟨p, M4, ex, pa, kk⟩ S3 t3 r3 => by
    subst ex
    cases r2.obj_inv
    have r1' := (r1.mono t2).mono t3
    cases pa with
    | @ofT kvs ks M5 M6 e hl hu =>
      subst e
      obtain ⟨b, rfl, eb⟩ := r3.key_inv
      obtain ⟨ws, e, r⟩ := S3.box _ hu.mem
      have t4 := S3.tex_write (o := .dT (putK ws ks v)) hu.mem rfl
      exact ⟨p, _, rfl, DPut.t e eb (sz_lt (by rw [r.length]; exact hl)), kk _ _ (S3.write hu rfl rfl ⟨_, upd_same, (r.put r1').mono t4⟩)⟩
    | @ofK kvs ks M5 M6 e hl hu =>
      subst e
      cases r3.kD_inv
      obtain ⟨ws, e, r⟩ := S3.box _ hu.mem
      have t4 := S3.tex_write (o := .dK (putK ws ks v)) hu.mem rfl
      exact ⟨p, _, rfl, DPut.k e (sz_lt (by rw [r.length]; exact hl)), kk _ _ (S3.write hu rfl rfl ⟨_, upd_same, (r.put r1').mono t4⟩)⟩
/-! ### loops: I, a word of the turn, the slots and the boxes -/
def NsI (A : Am) (P : Gm → Bxs → Prop) : L2.St → Hp → Prop := fun σ H => ∃ G M, P G M ∧ Sit A G M σ H
theorem ns_i {P : Gm → Bxs → Prop} (h : P G M) : Ns A (NsI A P) G M := fun σ H S => ⟨G, M, h, S⟩
theorem ns_forR1 {ta : TA} {j : Nat} {n : Int} (I : Nat → Gm → Bxs → Prop) (h : Wa A ta G M fun ds M1 => ds = [.int n] ∧ (-1000000000 ≤ n ∧ n ≤ 1000000000) ∧ I 0 G M1)
    (hs : ∀ (i : Nat) G' M', (i : Int) < n → I i G' M' → Ns A (ts ⟨NsI A (I (i + 1)), rt, nx, NsI A (I (i + 1))⟩) (G'.set j (some (.int (i : Int)))) M') (hd : ∀ G' M', I n.toNat G' M' → Ns A nx G' M') :
    Ns A (tFor (iRng1 ta) (gName j) ts ⟨nx, rt, bk, ct⟩) G M := fun σ H S =>
  h σ H S _ fun ds M1 vs H1 ⟨e, hn, k⟩ S1 t1 r1 => by
    subst e
    obtain ⟨v, rfl, hv⟩ := r1.one_inv
    cases hv.int_inv
    refine ⟨n, rfl, by omega, by omega, for_range (lo := 0) (n := n.toNat) (fun i => NsI A (I i)) ⟨_, _, k, S1⟩ (fun i σ' H' hi ⟨G', M', q, S'⟩ => ?_) fun σ' H' ⟨G', M', q, S'⟩ => hd _ _ q _ _ S'⟩
    have z := hs i G' M' (by omega) q
    have ez : (0 : Int) + (i : Int) = (i : Int) := by omega
    show ts _ (σ'.set j (some (.int (0 + (i : Int))))) H'
    rw [ez]
    exact z _ _ (S'.slot j (.int _))
theorem ns_forR2 {ta : TA} {j : Nat} {lo n : Int} (I : Nat → Gm → Bxs → Prop) (h : Wa A ta G M fun ds M1 => ds = [.int lo, .int n] ∧ (-1000000000 ≤ lo ∧ lo ≤ 1000000000 ∧ -1000000000 ≤ n ∧ n ≤ 1000000000) ∧ I 0 G M1)
    (hs : ∀ (i : Nat) G' M', lo + (i : Int) < n → I i G' M' → Ns A (ts ⟨NsI A (I (i + 1)), rt, nx, NsI A (I (i + 1))⟩) (G'.set j (some (.int (lo + (i : Int))))) M') (hd : ∀ G' M', I (n - lo).toNat G' M' → Ns A nx G' M') :
    Ns A (tFor (iRng2 ta) (gName j) ts ⟨nx, rt, bk, ct⟩) G M := fun σ H S =>
  h σ H S _ fun ds M1 vs H1 ⟨e, hn, k⟩ S1 t1 r1 => by
    subst e
    obtain ⟨v, u, rfl, hv, hu⟩ := r1.two_inv
    cases hv.int_inv
    cases hu.int_inv
    refine ⟨lo, n, rfl, by omega, for_range (lo := lo) (n := (n - lo).toNat) (fun i => NsI A (I i)) ⟨_, _, k, S1⟩ (fun i σ' H' hi ⟨G', M', q, S'⟩ => ?_) fun σ' H' ⟨G', M', q, S'⟩ => hd _ _ q _ _ S'⟩
    exact hs i G' M' (by omega) q _ _ (S'.slot j (.int _))
/-- what a for walks: a tuple or a list -/
def iSeq (K : PySem.W.Frag) (tl : TE) : TI := fun σ H R => tl σ H fun x H1 => ∃ a, x = .ref a ∧ (((∃ xs, SqL K H1 a xs) ∧ R (Itl K a) H1) ∨ ((∃ xs, SqT K H1 a xs) ∧ R (Itt K a) H1))
/-- over a tuple -/
theorem ns_forT {tl : TE} {j : Nat} {ds : List D} (I : Nat → Gm → Bxs → Prop) (h : We A tl G M fun x M1 => x = .tup ds ∧ I 0 G M1)
    (hs : ∀ (Hb : Hp) (_ : TEx A.Hb Hb) (i : Nat) (d : D) G' M', ds[i]? = some d → I i G' M' → Ns (A.re Hb) (ts ⟨NsI (A.re Hb) (I (i + 1)), rt, nx, NsI (A.re Hb) (I (i + 1))⟩) (G'.set j (some d)) M') (hd : ∀ G' M', I ds.length G' M' → Ns A nx G' M') :
    Ns A (tFor (iSeq A.K tl) (gName j) ts ⟨nx, rt, bk, ct⟩) G M := fun σ H S =>
  h σ H S _ fun x M1 v H1 ⟨e, k⟩ S1 t1 r1 => by
    subst e
    obtain ⟨a, xs, rfl, ea, r⟩ := r1.tup_inv
    refine ⟨a, rfl, .inr ⟨⟨xs, .of ea⟩, for_tup (K := A.K) (a := a) (xs := xs) (fun i => NsI (A.re H1) (I i)) ⟨_, _, k, S1.re⟩ (fun i σ' H' _ ⟨G', M', q, S'⟩ => .of (S'.tx _ _ ea)) (fun i y σ' H' hy ⟨G', M', q, S'⟩ => ?_) fun σ' H' ⟨G', M', q, S'⟩ => ?_⟩⟩
    · obtain ⟨d, hd', rd⟩ := (r.mono S'.tx).getV hy
      exact hs H1 S1.tx i d G' M' hd' q _ _ (S'.slot j rd)
    · rw [r.length] at q
      exact hd _ _ q _ _ (S'.un S1.tx)
/-- over a list that stands in a box: it stays -/
theorem ns_forL {tl : TE} {j : Nat} {ds : List D} (I : Addr → Nat → Gm → Bxs → Prop) (h : We A tl G M fun x M1 => ∃ p, x = .obj p ∧ I p 0 G M1)
    (hl : ∀ p i G' M', I p i G' M' → ∃ b, (p, b) ∈ M' ∧ Box.rb b = .l ds)
    (hs : ∀ (p : Addr) (i : Nat) (d : D) G' M', ds[i]? = some d → I p i G' M' → Ns A (ts ⟨NsI A (I p (i + 1)), rt, nx, NsI A (I p (i + 1))⟩) (G'.set j (some d)) M') (hd : ∀ p G' M', I p ds.length G' M' → Ns A nx G' M') :
    Ns A (tFor (iSeq A.K tl) (gName j) ts ⟨nx, rt, bk, ct⟩) G M := fun σ H S =>
  h σ H S _ fun x M1 v H1 ⟨p, e, k⟩ S1 t1 r1 => by
    subst e
    cases r1.obj_inv
    have all : ∀ {i : Nat} {σ' : L2.St} {H' : Hp}, NsI A (I p i) σ' H' → ∃ xs, SqL A.K H' p xs ∧ Rvs H' xs ds := fun ⟨G', M', q, S'⟩ => by
      obtain ⟨b, hm, hb⟩ := hl p _ G' M' q
      exact (S'.box _ hm).seq hb
    obtain ⟨xs0, e0, r0⟩ := all (i := 0) ⟨_, _, k, S1⟩
    refine ⟨p, rfl, .inl ⟨⟨xs0, e0⟩, fun i m σ' H' => NsI A (I p i) σ' H' ∧ i + m = ds.length, ⟨ds.length, ⟨_, _, k, S1⟩, by omega⟩, fun i m σ' H' ⟨hI, hm⟩ => ?_⟩⟩
    obtain ⟨xs, e, r⟩ := all hI
    have hl' := r.length
    obtain ⟨G', M', q, S'⟩ := hI
    by_cases hi : i < ds.length
    · have hx : xs[i]? = some xs[i] := List.getElem?_eq_getElem (by omega)
      refine .inr ⟨⟨xs, xs[i], e, hx⟩, fun σ2 H2 => NsI A (I p (i + 1)) σ2 H2, fun σ2 H2 z => ⟨m - 1, by omega, z, by omega⟩, fun y H2 ⟨eH, fy⟩ => ?_⟩
      subst eH
      have ey := fy xs e
      obtain ⟨d, hd', rd⟩ := r.getV ey
      exact hs p i d G' M' hd' q _ _ (S'.slot j rd)
    · have ei : i = ds.length := by omega
      subst ei
      exact .inl ⟨⟨xs, e, by omega⟩, hd p _ _ q _ _ S'⟩
theorem ns_while (I : Nat → Gm → Bxs → Prop) (m0 : Nat) (h0 : I m0 G M)
    (hs : ∀ m G' M', I m G' M' → Wt A t G' M' fun b M1 => (b = true → Ns A (ts ⟨NsI A (fun G2 M2 => ∃ m', m' < m ∧ I m' G2 M2), rt, nx, NsI A (fun G2 M2 => ∃ m', m' < m ∧ I m' G2 M2)⟩) G' M1) ∧ (b = false → Ns A nx G' M1)) :
    Ns A (tWhile t ts ⟨nx, rt, bk, ct⟩) G M := fun σ H S =>
  ⟨fun m => NsI A (I m), ⟨m0, _, _, h0, S⟩, fun m σ' H' ⟨G', M', q, S'⟩ => hs m G' M' q σ' H' S' _ fun b M1 H1 ⟨ky, kn⟩ S1 t1 => by
    cases b with
    | true =>
      rw [if_pos rfl]
      exact ⟨_, fun σ2 H2 ⟨G2, M2, ⟨m', hm, q2⟩, S2⟩ => ⟨m', hm, _, _, q2, S2⟩, ky rfl σ' H1 S1⟩
    | false => rw [if_neg (by simp)]; exact kn rfl σ' H1 S1⟩
end
end
/-! the slots, set -/
section
variable {A : Am} {M : Bxs} {φ : L2.St → Hp → Prop}
theorem ns_s0 { d x : Option D} {l : Gm} (h : Ns A φ (d :: l) M) : Ns A φ (List.set (x :: l) 0 d) M := h
theorem ns_s1 {a0 d x : Option D} {l : Gm} (h : Ns A φ (a0 :: d :: l) M) : Ns A φ (List.set (a0 :: x :: l) 1 d) M := h
theorem ns_s2 {a0 a1 d x : Option D} {l : Gm} (h : Ns A φ (a0 :: a1 :: d :: l) M) : Ns A φ (List.set (a0 :: a1 :: x :: l) 2 d) M := h
theorem ns_s3 {a0 a1 a2 d x : Option D} {l : Gm} (h : Ns A φ (a0 :: a1 :: a2 :: d :: l) M) : Ns A φ (List.set (a0 :: a1 :: a2 :: x :: l) 3 d) M := h
theorem ns_s4 {a0 a1 a2 a3 d x : Option D} {l : Gm} (h : Ns A φ (a0 :: a1 :: a2 :: a3 :: d :: l) M) : Ns A φ (List.set (a0 :: a1 :: a2 :: a3 :: x :: l) 4 d) M := h
theorem ns_s5 {a0 a1 a2 a3 a4 d x : Option D} {l : Gm} (h : Ns A φ (a0 :: a1 :: a2 :: a3 :: a4 :: d :: l) M) : Ns A φ (List.set (a0 :: a1 :: a2 :: a3 :: a4 :: x :: l) 5 d) M := h
theorem ns_s6 {a0 a1 a2 a3 a4 a5 d x : Option D} {l : Gm} (h : Ns A φ (a0 :: a1 :: a2 :: a3 :: a4 :: a5 :: d :: l) M) : Ns A φ (List.set (a0 :: a1 :: a2 :: a3 :: a4 :: a5 :: x :: l) 6 d) M := h
theorem ns_s7 {a0 a1 a2 a3 a4 a5 a6 d x : Option D} {l : Gm} (h : Ns A φ (a0 :: a1 :: a2 :: a3 :: a4 :: a5 :: a6 :: d :: l) M) : Ns A φ (List.set (a0 :: a1 :: a2 :: a3 :: a4 :: a5 :: a6 :: x :: l) 7 d) M := h
theorem ns_s8 {a0 a1 a2 a3 a4 a5 a6 a7 d x : Option D} {l : Gm} (h : Ns A φ (a0 :: a1 :: a2 :: a3 :: a4 :: a5 :: a6 :: a7 :: d :: l) M) : Ns A φ (List.set (a0 :: a1 :: a2 :: a3 :: a4 :: a5 :: a6 :: a7 :: x :: l) 8 d) M := h
theorem ns_s9 {a0 a1 a2 a3 a4 a5 a6 a7 a8 d x : Option D} {l : Gm} (h : Ns A φ (a0 :: a1 :: a2 :: a3 :: a4 :: a5 :: a6 :: a7 :: a8 :: d :: l) M) : Ns A φ (List.set (a0 :: a1 :: a2 :: a3 :: a4 :: a5 :: a6 :: a7 :: a8 :: x :: l) 9 d) M := h
theorem ns_s10 {a0 a1 a2 a3 a4 a5 a6 a7 a8 a9 d x : Option D} {l : Gm} (h : Ns A φ (a0 :: a1 :: a2 :: a3 :: a4 :: a5 :: a6 :: a7 :: a8 :: a9 :: d :: l) M) : Ns A φ (List.set (a0 :: a1 :: a2 :: a3 :: a4 :: a5 :: a6 :: a7 :: a8 :: a9 :: x :: l) 10 d) M := h
theorem ns_s11 {a0 a1 a2 a3 a4 a5 a6 a7 a8 a9 a10 d x : Option D} {l : Gm} (h : Ns A φ (a0 :: a1 :: a2 :: a3 :: a4 :: a5 :: a6 :: a7 :: a8 :: a9 :: a10 :: d :: l) M) : Ns A φ (List.set (a0 :: a1 :: a2 :: a3 :: a4 :: a5 :: a6 :: a7 :: a8 :: a9 :: a10 :: x :: l) 11 d) M := h
theorem ns_s12 {a0 a1 a2 a3 a4 a5 a6 a7 a8 a9 a10 a11 d x : Option D} {l : Gm} (h : Ns A φ (a0 :: a1 :: a2 :: a3 :: a4 :: a5 :: a6 :: a7 :: a8 :: a9 :: a10 :: a11 :: d :: l) M) : Ns A φ (List.set (a0 :: a1 :: a2 :: a3 :: a4 :: a5 :: a6 :: a7 :: a8 :: a9 :: a10 :: a11 :: x :: l) 12 d) M := h
theorem ns_s13 {a0 a1 a2 a3 a4 a5 a6 a7 a8 a9 a10 a11 a12 d x : Option D} {l : Gm} (h : Ns A φ (a0 :: a1 :: a2 :: a3 :: a4 :: a5 :: a6 :: a7 :: a8 :: a9 :: a10 :: a11 :: a12 :: d :: l) M) : Ns A φ (List.set (a0 :: a1 :: a2 :: a3 :: a4 :: a5 :: a6 :: a7 :: a8 :: a9 :: a10 :: a11 :: a12 :: x :: l) 13 d) M := h
end
end Mv

/-! Base4: comprehensions; calls; a def's body from its data. -/
namespace Mv
open PySem PySem.Spec PyProof.Rows L2

theorem pi_seq {X : Cx} {tg l : Expr} {tl : TE} (hl : PE X l tl) : PI X tg l (iSeq X.K tl) := ⟨fun pins s σ H Rr I h => by
  refine thn (hl.run pins s σ H _ I h) fun v s1 ⟨x, H1, I1, rx, a, ex, hh⟩ => ?_
  subst ex; cases rx
  have fp : ∀ {hp : Heap}, ∀ b ∈ [s1.heap.objs.size], FpOk X pins H1 b := fun b hb => by
    cases List.mem_singleton.mp hb
    exact I1.fpOk (Nat.le_refl _) (I1.hok.fresh (Nat.le_refl _))
  rcases hh with ⟨⟨xs, e⟩, q⟩ | ⟨⟨xs, e⟩, q⟩
  · obtain ⟨its, _, p, _⟩ := I1.list e
    exact wpAny_pyIter_list p.isList ⟨_, [_], _, _, H1, rfl, I1.kept (t' := s1.toks) (fun b o z => Heap.get?_push_of_some _ z), turn_list a _, ⟨_, Heap.get?_push_size _ rfl, rfl, rfl⟩, fp (hp := s1.heap), q⟩
  · obtain ⟨its, _, p, _⟩ := I1.tuple e
    exact wpAny_pyIter_tuple (show s1.heap.IsTuple a its.toArray from p) ⟨_, [_], _, _, H1, rfl, I1.kept (t' := s1.toks) (fun b o z => Heap.get?_push_of_some _ z), turn_tuple a _, ⟨_, Heap.get?_push_size _ rfl, rfl, rfl⟩, fp (hp := s1.heap), q⟩⟩

section
variable {A : Am} {G : Gm} {M : Bxs} {ta tb te tc td ty tx tv tl : TE} {tt u : TT} {R : D → Bxs → Prop}

/-- one turn: the test, then the element -/
def LcTurn (A : Am) (j : Nat) (tt : TT) (te : TE) (G : Gm) (M : Bxs) (d : D) (p : Addr) (acc : List D) (J : List D → Prop) : Prop :=
  Wt A tt (G.set j (some d)) ((p, .lst acc) :: M) fun b M2 => (b = true → We A te (G.set j (some d)) M2 fun e M3 => acc.length < 10000000 ∧ J (acc ++ [e]) ∧ ((p, Box.lst acc) :: M).Sublist M3) ∧ (b = false → J acc ∧ ((p, Box.lst acc) :: M).Sublist M2)
theorem lc_turn {j : Nat} {p : Addr} {acc : List D} {J : List D → Prop} {d : D} {y : V} {σ : L2.St} {H Hs : Hp} (h : LcTurn A j tt te G M d p acc J) (S : Sit A G ((p, .lst acc) :: M) σ H) (t0 : TEx Hs H) (r : Rv H y d) :
    gName j y (wipe σ [j]) H fun σ2 H2 => wipe σ2 [j] = wipe σ [j] ∧ tt σ2 H2 fun b H3 =>
      if b = true then te σ2 H3 fun z H4 => ∃ ac, H4 p = some (.lst ac) ∧ ac.length < sizeLine ∧ (∃ a2, J a2 ∧ Sit A G ((p, .lst a2) :: M) σ (upd H4 p (.lst (ac ++ [z]))) ∧ TEx Hs (upd H4 p (.lst (ac ++ [z])))) else ∃ a2, J a2 ∧ Sit A G ((p, .lst a2) :: M) σ H3 ∧ TEx Hs H3 := by
  refine ⟨by simp [wipe, List.set_set], ?_⟩
  have e1 : (wipe σ [j]).set j (some y) = σ.set j (some y) := by simp [wipe, List.set_set]
  rw [e1]
  have back : ∀ {M3 : Bxs} {H4 : Hp}, ((p, Box.lst acc) :: M).Sublist M3 → Sit A (G.set j (some d)) M3 (σ.set j (some y)) H4 → TEx H H4 → Sit A G ((p, .lst acc) :: M) σ H4 := fun hs S4 t4 =>
    ⟨S.len, fun i e he => let ⟨v, a, b⟩ := S.loc i e he; ⟨v, a, b.mono t4⟩, (S4.sub hs).box, (S4.sub hs).nd, S4.fr, (S4.sub hs).wr, S4.tx⟩
  refine h _ H (S.slot j r) _ fun b M2 H3 ⟨ky, kn⟩ S2 t2 => ?_
  cases b with
  | false =>
    rw [if_neg (by simp)]
    obtain ⟨hJ, hs⟩ := kn rfl
    exact ⟨acc, hJ, back hs S2 t2, t0.trans t2⟩
  | true =>
    rw [if_pos rfl]
    refine ky rfl _ H3 S2 _ fun e M3 z H4 ⟨hl, hJ, hs⟩ S4 t4 r4 => ?_
    have S5 := back hs S4 (t2.trans t4)
    obtain ⟨ac, ea, ra⟩ := S5.box _ List.mem_cons_self
    have t5 := S5.tex_write (o := .lst (ac ++ [z])) List.mem_cons_self rfl
    exact ⟨ac, ea, sz_lt (by rw [ra.length]; exact hl), _, hJ, S5.write .here rfl rfl ⟨_, upd_same, (ra.snoc r4).mono t5⟩, ((t0.trans t2).trans t4).trans t5⟩
theorem w_lcR1 {wa : TA} {j : Nat} {n : Int} (I : Nat → List D → Prop) (h : Wa A wa G M fun ds M1 => ds = [.int n] ∧ (-1000000000 ≤ n ∧ n ≤ 1000000000) ∧ I 0 [] ∧
      (∀ (p : Addr) (i : Nat) acc, (i : Int) < n → I i acc → LcTurn A j tt te G M1 (.int (i : Int)) p acc (I (i + 1))) ∧ ∀ p acc, I n.toNat acc → R (.obj p) ((p, .lst acc) :: M1)) :
    We A (tLc (iRng1 wa) (gName j) tt te [j]) G M R := fun σ H S Q q =>
  h σ H S _ fun ds M1 vs H1 ⟨e, hn, h0, hs, hd⟩ S1 t1 r1 => by
    subst e
    obtain ⟨v, rfl, hv⟩ := r1.one_inv
    cases hv.int_inv
    refine ⟨n, rfl, by omega, by omega, fun p hp => ?_⟩
    refine lc_range (lo := 0) (n := n.toNat) (fun i H' => ∃ acc, I i acc ∧ Sit A G ((p, .lst acc) :: M1) σ H' ∧ TEx H1 H') ⟨[], h0, S1.add hp ⟨[], upd_same, .nil⟩, .of (same_new hp)⟩ (fun i H' hi ⟨acc, hI, S', t'⟩ => ?_) fun H' ⟨acc, hI, S', t'⟩ => ?_
    · have ez : (0 : Int) + (i : Int) = (i : Int) := by omega
      rw [ez]
      exact lc_turn (hs p i acc (by omega) hI) S' t' (.int _)
    · exact q _ _ _ _ (hd p acc hI) S' (t1.trans t') (.obj p)
theorem w_lcT {j : Nat} {ds : List D} (I : Nat → List D → Prop) (h : We A tl G M fun x M1 => x = .tup ds ∧ I 0 [] ∧
      (∀ (Hb : Hp) (_ : TEx A.Hb Hb) (p : Addr) (i : Nat) acc d, ds[i]? = some d → I i acc → LcTurn (A.re Hb) j tt te G M1 d p acc (I (i + 1))) ∧ ∀ p acc, I ds.length acc → R (.obj p) ((p, .lst acc) :: M1)) :
    We A (tLc (iSeq A.K tl) (gName j) tt te [j]) G M R := fun σ H S Q q =>
  h σ H S _ fun x M1 v H1 ⟨e, h0, hs, hd⟩ S1 t1 r1 => by
    subst e
    obtain ⟨a, xs, rfl, ea, r⟩ := r1.tup_inv
    refine ⟨a, rfl, .inr ⟨⟨xs, .of ea⟩, fun p hp => ?_⟩⟩
    refine lc_tup (K := A.K) (a := a) (xs := xs) (fun i H' => ∃ acc, I i acc ∧ Sit (A.re H1) G ((p, .lst acc) :: M1) σ H' ∧ TEx H1 H') ⟨[], h0, S1.re.add hp ⟨[], upd_same, .nil⟩, .of (same_new hp)⟩ (fun i H' _ ⟨acc, hI, S', t'⟩ => .of (t' _ _ ea)) (fun i y H' hy ⟨acc, hI, S', t'⟩ => ?_) fun H' ⟨acc, hI, S', t'⟩ => ?_
    · obtain ⟨d, hd', rd⟩ := (r.mono t').getV hy
      exact lc_turn (hs H1 S1.tx p i acc d hd' hI) S' t' rd
    · rw [r.length] at hI
      exact q _ _ _ _ (hd p acc hI) (S'.un S1.tx) (t1.trans t') (.obj p)
theorem w_lcL {j : Nat} {ds : List D} (I : Nat → List D → Prop) (h : We A tl G M fun x M1 => ∃ a b, x = .obj a ∧ (a, b) ∈ M1 ∧ Box.rb b = .l ds ∧ I 0 [] ∧
      (∀ (p : Addr) (i : Nat) acc d, ds[i]? = some d → I i acc → LcTurn A j tt te G M1 d p acc (I (i + 1))) ∧ ∀ p acc, I ds.length acc → R (.obj p) ((p, .lst acc) :: M1)) :
    We A (tLc (iSeq A.K tl) (gName j) tt te [j]) G M R := fun σ H S Q q =>
  h σ H S _ fun x M1 v H1 ⟨a, b, e, hm, hb, h0, hs, hd⟩ S1 t1 r1 => by
    subst e
    cases r1.obj_inv
    have all : ∀ {acc : List D} {p : Addr} {H' : Hp}, Sit A G ((p, .lst acc) :: M1) σ H' → ∃ xs, SqL A.K H' a xs ∧ Rvs H' xs ds := fun S' => (S'.box _ (List.mem_cons_of_mem _ hm)).seq hb
    obtain ⟨xs0, e0, r0⟩ := (S1.box _ hm).seq hb
    refine ⟨a, rfl, .inl ⟨⟨xs0, e0⟩, fun p hp => ⟨fun i m H' => (∃ acc, I i acc ∧ Sit A G ((p, .lst acc) :: M1) σ H' ∧ TEx H1 H') ∧ i + m = ds.length, ⟨ds.length, ⟨[], h0, S1.add hp ⟨[], upd_same, .nil⟩, .of (same_new hp)⟩, by omega⟩, fun i m H' ⟨⟨acc, hI, S', t'⟩, hm'⟩ => ?_⟩⟩⟩
    obtain ⟨xs, e, r⟩ := all S'
    have hl' := r.length
    by_cases hi : i < ds.length
    · have hx : xs[i]? = some xs[i] := List.getElem?_eq_getElem (by omega)
      refine .inr ⟨⟨xs, xs[i], e, hx⟩, fun H2 => ∃ acc, I (i + 1) acc ∧ Sit A G ((p, .lst acc) :: M1) σ H2 ∧ TEx H1 H2, fun H2 z => ⟨m - 1, by omega, z, by omega⟩, fun y H2 ⟨eH, fy⟩ => ?_⟩
      subst eH
      have ey := fy xs e
      obtain ⟨d, hd', rd⟩ := r.getV ey
      exact lc_turn (hs p i acc d hd' hI) S' t' rd
    · have ei : i = ds.length := by omega
      subst ei
      exact .inl ⟨⟨xs, e, by omega⟩, q _ _ _ _ (hd p acc hI) S' (t1.trans t') (.obj p)⟩
end

/-! ### what a def promises, over data -/
/-- args: the arguments; ms: the boxes that it may write; rs: what it reads; post: the result, the boxes that come (those of ms first); exc: the classes that it may raise -/
structure FS (Gh : Type) where
  args : Gh → List D
  ms : Gh → Bxs := fun _ => []
  rs : Gh → List (Addr × Rb) := fun _ => []
  pre : Gh → Prop := fun _ => True
  post : Gh → D → Bxs → Prop
  exc : Gh → Value → Prop := fun _ _ => False
abbrev RsOf : Bxs → List (Addr × Rb) → Prop := Paired fun p q => p.1 = q.1 ∧ p.2.rb = q.2 ∧ p.2.wr = false
def spOf {Gh : Type} (K : PySem.W.Frag) (F : FS Gh) : Sp := fun vs H Q E => ∃ (g : Gh) (rb : Bxs), F.pre g ∧ Rvs H vs (F.args g) ∧ (∀ p ∈ F.ms g, p.2.wr = true) ∧ RsOf rb (F.rs g) ∧ BxsAt K H (F.ms g ++ rb) ∧
  (∀ (v : V) (H' : Hp) (d : D) (M' : Bxs), F.post g d M' → Rv H' v d → BxsAt K H' M' → (∀ p ∈ M', p.2.wr = true ∧ (p.1 ∈ ads (F.ms g) ∨ H p.1 = none)) → (∀ a o, H a = some o → a ∉ ads (F.ms g) → H' a = some o) → Q v H') ∧
  ∀ (cls : Value) (H' : Hp), F.exc g cls → Same H H' → E cls none H'
theorem spOf_len {Gh : Type} {K : PySem.W.Frag} {F : FS Gh} {n : Nat} (h : ∀ g, (F.args g).length = n) : ∀ vs H Q E, spOf K F vs H Q E → vs.length = n := fun vs H Q E ⟨g, _, _, r, _⟩ => by
  rw [r.length]; exact h g
theorem ads_append (M N : Bxs) : ads (M ++ N) = ads M ++ ads N := by unfold ads; simp

/-- what is wished of an exception -/
def Ew (A : Am) (E : XK) (G : Gm) (M : Bxs) (cls : Value) : Prop := ∀ σ H, Sit A G M σ H → E cls none H
/-- the same of a wish that looks at the slots -/
def EwS (A : Am) (W : L2.St → XK) (G : Gm) (M : Bxs) (cls : Value) : Prop := ∀ σ H, Sit A G M σ H → W σ cls none H
/-- some boxes are taken out -/
inductive Pick : Bxs → Addr × Box → Bxs → Prop
  | here {p : Addr × Box} {l : Bxs} : Pick (p :: l) p l
  | there {p q : Addr × Box} {l l' : Bxs} (h : Pick l p l') : Pick (q :: l) p (q :: l')
inductive Sel : Bxs → Bxs → Bxs → Prop
  | nil {M : Bxs} : Sel M [] M
  | cons {M M1 rest ms : Bxs} {p : Addr × Box} (h : Pick M p M1) (t : Sel M1 ms rest) : Sel M (p :: ms) rest
theorem Pick.perm : ∀ {M : Bxs} {p : Addr × Box} {M' : Bxs}, Pick M p M' → M.Perm (p :: M')
  | _, _, _, .here => .refl _
  | _, _, _, .there h => (h.perm.cons _).trans (List.Perm.swap _ _ _)
theorem Sel.perm : ∀ {M ms rest : Bxs}, Sel M ms rest → M.Perm (ms ++ rest)
  | _, _, _, .nil => .refl _
  | _, _, _, .cons h t => h.perm.trans (t.perm.cons _)
def roB : Box → Box
  | .lst ds => .ro ds
  | .dt kvs => .rt kvs
  | .dk kvs => .rk kvs
  | b => b
theorem roB_at {K : PySem.W.Frag} {H : Hp} {a : Addr} {b : Box} (h : BoxAt K H a b) : BoxAt K H a (roB b) ∧ (roB b).rb = b.rb ∧ (roB b).wr = false ∧ (roB b).isKo = b.isKo := by
  cases b with
  | lst xs => obtain ⟨ys, e, r⟩ := h; exact ⟨⟨ys, .inl e, r⟩, rfl, rfl, rfl⟩
  | dt xs => obtain ⟨ys, e, r⟩ := h; exact ⟨⟨ys, .inl e, r⟩, rfl, rfl, rfl⟩
  | dk xs => obtain ⟨ys, e, r⟩ := h; exact ⟨⟨ys, .inl e, r⟩, rfl, rfl, rfl⟩
  | _ => exact ⟨h, rfl, rfl, rfl⟩
abbrev SqOf : Bxs → List (Addr × Rb) → Prop := Paired fun p q => p.1 = q.1 ∧ p.2.rb = q.2
def roBs (M : Bxs) : Bxs := M.map fun p => (p.1, roB p.2)
theorem roBs_ok {K : PySem.W.Frag} {H : Hp} : ∀ {pk : Bxs} {rs : List (Addr × Rb)}, SqOf pk rs → (∀ p ∈ pk, BoxAt K H p.1 p.2) → RsOf (roBs pk) rs ∧ (∀ p ∈ roBs pk, BoxAt K H p.1 p.2) ∧ ads (roBs pk) = ads pk
  | _, _, .nil, _ => ⟨.nil, fun _ h => (by cases h), rfl⟩
  | (a, b) :: pk, (a', ds) :: rs, .cons h t, hb => by
    obtain ⟨i1, i2, i3⟩ := roBs_ok t fun p hp => hb p (List.mem_cons_of_mem _ hp)
    obtain ⟨q1, q2, q3, q4⟩ := roB_at (hb _ List.mem_cons_self)
    refine ⟨.cons ⟨h.1, q2.trans h.2, q3⟩ i1, fun p hp => ?_, ?_⟩
    · rcases List.mem_cons.mp hp with rfl | hp
      · exact q1
      · exact i2 p hp
    · show ads ((a, roB b) :: roBs pk) = _
      rw [ads_cons, ads_cons, i3]
      show (if (roB b).isKo = true then _ else _) = _
      rw [q4]
section
variable {A : Am} {G : Gm} {M : Bxs} {R : D → Bxs → Prop} {Gh : Type} {F : FS Gh} {E : XK} {W : L2.St → XK} {ta : TA}
/-- what a call gives, from the arguments' data on -/
def Cf (A : Am) (F : FS Gh) (W : L2.St → XK) (ds : List D) (G : Gm) (M : Bxs) (R : D → Bxs → Prop) : Prop :=
  ∃ (g : Gh) (rest pk rest2 : Bxs), F.args g = ds ∧ F.pre g ∧ (∀ p ∈ F.ms g, p.2.wr = true) ∧ Sel M (F.ms g) rest ∧ Sel rest pk rest2 ∧ SqOf pk (F.rs g) ∧ (∀ d M', F.post g d M' → R d (M' ++ rest)) ∧ ∀ cls, F.exc g cls → EwS A W G M cls
theorem run_call {σ : L2.St} {H : Hp} {vs : List V} {ds : List D} {Q : VK} (h : Cf A F W ds G M R) (S : Sit A G M σ H) (r : Rvs H vs ds) (q : ∀ d M' v H', R d M' → Sit A G M' σ H' → TEx H H' → Rv H' v d → Q v H') : spOf A.K F vs H Q (W σ) := by
  obtain ⟨g, rest, pk, rest2, rfl, hp, hw, hs, hs2, hq, k, kx⟩ := h
  have S1 := S.perm hs.perm.symm
  have bm : ∀ p ∈ F.ms g, BoxAt A.K H p.1 p.2 := fun p hp => S1.box p (List.mem_append_left _ hp)
  have br : ∀ p ∈ rest, BoxAt A.K H p.1 p.2 := fun p hp => S1.box p (List.mem_append_right _ hp)
  have nd := S1.nd
  rw [ads_append] at nd
  obtain ⟨nm, nr, dj⟩ := List.nodup_append.mp nd
  obtain ⟨q1, q2, q3⟩ := roBs_ok (K := A.K) (H := H) hq fun p hp => br p (hs2.perm.mem_iff.mpr (List.mem_append_left _ hp))
  have np : (ads pk ++ ads rest2).Nodup := by rw [← ads_append]; exact ((hs2.perm.filter _).map _).nodup_iff.mp nr
  refine ⟨g, roBs pk, hp, r, hw, q1, ⟨fun p hp => ?_, ?_⟩, fun v H' d M' hpo rv hb hf hfr => ?_, fun cls H' hx sm => kx cls hx σ H' (S.same sm)⟩
  · rcases List.mem_append.mp hp with hp | hp
    · exact bm p hp
    · exact q2 p hp
  · rw [ads_append, q3]
    refine List.nodup_append.mpr ⟨nm, (List.nodup_append.mp np).1, fun a ha b hb => dj a ha b ?_⟩
    have : b ∈ ads (pk ++ rest2) := by rw [ads_append]; exact List.mem_append_left _ hb
    exact ((hs2.perm.filter _).map _).mem_iff.mpr this
  · have tx : TEx H H' := fun a xs e => by
      refine hfr a _ e fun hm => ?_
      obtain ⟨p, hp, hk, rfl⟩ := mem_ads.mp hm
      exact (bm p hp).not_tup hk xs e
    have notm : ∀ a o, A.H0 a = some o → a ∉ A.mx → a ∉ ads (F.ms g) := fun a o e hm ha => by
      obtain ⟨p, hp, hk, rfl⟩ := mem_ads.mp ha
      exact hm (S1.wr p (List.mem_append_left _ hp) (hw p hp) o e)
    have keep : ∀ p ∈ rest, p.2.isKo = false → ∀ o, H p.1 = some o → H' p.1 = some o := fun p hp hk o e => by
      refine hfr _ _ e fun hm => ?_
      exact dj _ hm _ (mem_ads.mpr ⟨p, hp, hk, rfl⟩) rfl
    refine q d (M' ++ rest) v H' (k d M' hpo) ⟨S.len, fun i e he => let ⟨w, a, b⟩ := S.loc i e he; ⟨w, a, b.mono tx⟩, fun p hp => ?_, ?_, fun a o e hm => hfr _ _ (S.fr a o e hm) (notm a o e hm), fun p hp hr o e => ?_, S.tx.trans tx⟩ tx rv
    · rcases List.mem_append.mp hp with hp | hp
      · exact hb.1 p hp
      · exact (br p hp).mono tx (keep p hp)
    · rw [ads_append]
      refine List.nodup_append.mpr ⟨hb.2, nr, fun a ha b hb2 e => ?_⟩
      subst e
      obtain ⟨p, hp, hk, rfl⟩ := mem_ads.mp ha
      obtain ⟨p2, hp2, hk2, e2⟩ := mem_ads.mp hb2
      rcases (hf p hp).2 with h | h
      · exact dj _ h _ hb2 rfl
      · exact (br p2 hp2).not_none hk2 (by rw [e2]; exact h)
    · rcases List.mem_append.mp hp with hp | hp
      · rcases (hf p hp).2 with h | h
        · obtain ⟨p2, hp2, hk2, e2⟩ := mem_ads.mp h
          rw [← e2]
          exact S1.wr p2 (List.mem_append_left _ hp2) (hw p2 hp2) o (by rw [e2]; exact e)
        · by_cases hm : p.1 ∈ A.mx
          · exact hm
          · have := S.fr _ _ e hm
            rw [h] at this; cases this
      · exact S1.wr p (List.mem_append_right _ hp) hr o e
theorem w_call (h : Wa A ta G M fun ds M1 => Cf A F (fun _ => E) ds G M1 R) : We A (tCall (spOf A.K F) [] E ta) G M R := fun σ H S Q q =>
  h σ H S _ fun ds M1 vs H1 k S1 t1 r1 => by
    show spOf A.K F (vs ++ []) H1 Q E
    rw [List.append_nil]
    exact run_call (W := fun _ => E) k S1 r1 fun d M' w H' z S' t' r' => q d M' w H' z S' (t1.trans t') r'
/-- a call in a try's body -/
theorem w_callS (h : Wa A ta G M fun ds M1 => Cf A F W ds G M1 R) : We A (tCallS (spOf A.K F) W ta) G M R := fun σ H S Q q =>
  h σ H S _ fun ds M1 vs H1 k S1 t1 r1 => run_call k S1 r1 fun d M' w H' z S' t' r' => q d M' w H' z S' (t1.trans t') r'
/-- the simplest call: nothing is written, nothing raised -/
theorem cf_pure {ds : List D} (g : Gh) (ha : F.args g = ds) (hp : F.pre g) (k : ∀ d M', F.post g d M' → R d (M' ++ M)) (hm : F.ms g = [] := by rfl) (hr : F.rs g = [] := by rfl) (hx : ∀ cls, ¬ F.exc g cls := by intro _ h; exact h) : Cf A F W ds G M R :=
  ⟨g, M, [], M, ha, hp, by rw [hm]; exact fun _ h => (by cases h), by rw [hm]; exact .nil, .nil, by rw [hr]; exact .nil, k, fun cls h => absurd h (hx cls)⟩
end

/-! ### a def's body -/
section
variable {Gh : Type} {F : FS Gh}
def startG (n : Nat) (ds : List D) : Gm := ds.map some ++ List.replicate (n - ds.length) none
theorem start_sit {K : PySem.W.Frag} {H : Hp} {N : List Str} {vs : List V} {ds : List D} {ms rb : Bxs} (r : Rvs H vs ds) (hw : ∀ p ∈ ms, p.2.wr = true) (hr : ∀ p ∈ rb, p.2.wr = false) (hb : BxsAt K H (ms ++ rb)) :
    Sit ⟨K, H, ads ms, H⟩ (startG N.length ds) (ms ++ rb) (L2.start N vs) H where
  len := by simp [L2.start, startG, r.length]
  loc := fun i d h => by
    unfold startG at h
    by_cases hi : i < ds.length
    · rw [List.getElem?_append_left (by simpa using hi), List.getElem?_map] at h
      cases e : ds[i]? with
      | none => rw [e] at h; cases h
      | some d' =>
        rw [e] at h
        cases h
        obtain ⟨v, a, b⟩ := r.get e
        refine ⟨v, ?_, b⟩
        unfold L2.start
        rw [List.getElem?_append_left (by simp [r.length]; exact hi), List.getElem?_map, a]
        rfl
    · rw [List.getElem?_append_right (by simp; omega)] at h
      rw [List.getElem?_replicate] at h
      split at h <;> cases h
  box := hb.1
  nd := hb.2
  fr := fun a o h _ => h
  wr := fun p hp hk o h => by
    rcases List.mem_append.mp hp with hp | hp
    · exact mem_ads.mpr ⟨p, hp, wr_ko hk, rfl⟩
    · rw [hr p hp] at hk; cases hk
  tx := .refl _
theorem RsOf.wr : ∀ {rb : Bxs} {rs : List (Addr × Rb)}, RsOf rb rs → ∀ p ∈ rb, p.2.wr = false
  | _, _, .nil, _, h => by cases h
  | _, _, .cons h t, p, hp => by
    rcases List.mem_cons.mp hp with rfl | hp
    · exact h.2.2
    · exact RsOf.wr t p hp
/-- the def's end: the result d, the boxes M' of what stands -/
def Fin (A : Am) (F : FS Gh) (g : Gh) (rt : VK) (E : XK) : Prop := (∀ (G : Gm) (d : D) (M M' : Bxs), F.post g d M' → (∀ p ∈ M', p.2.wr = true) → (∃ l, Sel M M' l) → Rt A rt G d M) ∧ ∀ (G : Gm) (M : Bxs) (cls : Value), F.exc g cls → ads (F.ms g) = [] → Ew A E G M cls
theorem Fin.re {A : Am} {g : Gh} {rt : VK} {E : XK} {Hb : Hp} (h : Fin A F g rt E) (t : TEx A.Hb Hb) : Fin (A.re Hb) F g rt E := ⟨fun G d M M' h1 h2 h3 σ H v S => h.1 G d M M' h1 h2 h3 σ H v (S.un t), fun G M cls h1 h2 σ H S => h.2 G M cls h1 h2 σ H (S.un t)⟩
theorem body_of {K : PySem.W.Frag} {N : List Str} {t : XK → TS} {vs : List V} {H : Hp} {Q : VK} {E : XK} (h : spOf K F vs H Q E)
    (hb : ∀ (g : Gh) (rb : Bxs) (A : Am) (nx : L2.St → Hp → Prop) (rt : VK) (E : XK), A.K = K → F.pre g → RsOf rb (F.rs g) → (∀ σ H, nx σ H → True) → Fin A F g rt E → (∀ (G : Gm) (M M' : Bxs), F.post g .non M' → (∀ p ∈ M', p.2.wr = true) → (∃ l, Sel M M' l) → Ns A nx G M) →
      Ns A (t E ⟨nx, rt, fun _ _ => False, fun _ _ => False⟩) (startG N.length (F.args g)) (F.ms g ++ rb)) :
    t E { nx := fun _ H' => Q .non H', rt := Q } (L2.start N vs) H := by
  obtain ⟨g, rb, hp, r, hw, hr, hbx, k, kx⟩ := h
  have fin : ∀ {G : Gm} {M M' : Bxs} {σ : L2.St} {H' : Hp} {d : D} {v : V}, F.post g d M' → (∀ p ∈ M', p.2.wr = true) → (∃ l, Sel M M' l) → Sit ⟨K, H, ads (F.ms g), H⟩ G M σ H' → Rv H' v d → Q v H' := by
    intro G M M' σ H' d v hpo hw' hsub S rv
    obtain ⟨l, hl⟩ := hsub
    have S' := (S.perm hl.perm.symm).sub (List.sublist_append_left M' l)
    refine k v H' d M' hpo rv ⟨S'.box, S'.nd⟩ (fun p hp => ⟨hw' p hp, ?_⟩) S.fr
    cases e : H p.1 with
    | none => exact .inr rfl
    | some o => exact .inl (S'.wr p hp (hw' p hp) o e)
  refine hb g rb ⟨K, H, ads (F.ms g), H⟩ _ Q E rfl hp hr (fun _ _ _ => trivial) ⟨fun G d M M' hpo hw' hsub σ H' v S rv => fin hpo hw' hsub S rv, fun G M cls hx hm σ H' S => kx cls H' hx fun a o e => S.fr a o e (by show a ∉ ads (F.ms g); rw [hm]; exact List.not_mem_nil)⟩ (fun G M M' hpo hw' hsub σ H' S => fin hpo hw' hsub S .non) _ _ (start_sit r hw hr.wr hbx)
end
end Mv

/-! Base5: operators by name, built-ins, calls of the text's defs, tries. -/
namespace Mv
open PySem PySem.Spec PyProof.Rows L2

/-! ### operators -/
def rPlus (K : PySem.W.Frag) : R2 := fun x y H Q => rI0 (fun i j => .int (i + j)) x y H Q ∨ (fun x y H Q => rCatA K x y H Q ∨ rCat x y H Q) x y H Q
def rMinus : R2 := rI0 fun i j => .int (i - j)
def rTimes : R2 := rI CMul fun i j => .int (i * j)
def rFloor : R2 := rI CDiv fun i j => .int (i / j)
def rModu : R2 := rI (fun _ j => 0 < j) fun i j => .int (i % j)
def rPower : R2 := rI CPow fun i j => .int (i ^ j.toNat)
def rLess : R2 := rI0 fun i j => .bl (decide (i < j))
def rLeq : R2 := rI0 fun i j => .bl (decide (i ≤ j))
def rMore : R2 := rI0 fun i j => .bl (decide (j < i))
def rGeq : R2 := rI0 fun i j => .bl (decide (j ≤ i))
def rNeg : V → Hp → VK → Prop := rU fun i => .int (-i)
def rCut (K : PySem.W.Frag) : V → Option Int → Option Int → Hp → VK → Prop := fun x lo hi H Q => rSlL K x lo hi H Q ∨ rSlA K x lo hi H Q
def rInt : List V → Hp → VK → Prop := fun xs H Q => (∃ i, xs = [.int i] ∧ Q (.int i) H) ∨ ∃ k, xs = [.bl k] ∧ Q (.int (if k then 1 else 0)) H
def rMax2 : List V → Hp → VK → Prop := fun xs H Q => ∃ i j, xs = [.int i, .int j] ∧ Q (.int (if j > i then j else i)) H
def rAbs : List V → Hp → VK → Prop := fun xs H Q => ∃ i, xs = [.int i] ∧ Q (.int (if i < 0 then -i else i)) H
def rSrt (K : PySem.W.Frag) : List V → Hp → VK → Prop := fun vs H Q => rSortedI K vs H Q ∨ rSortedPO K vs H Q
section
variable {X : Cx}
theorem op_plus : OpR X (binaryOp .Add) (rPlus X.K) := OpR.or op_add (OpR.or op_catA op_cat)
theorem op_minus : OpR X (binaryOp .Sub) rMinus := op_sub
theorem op_times : OpR X (binaryOp .Mult) rTimes := op_mul
theorem op_floor : OpR X (binaryOp .FloorDiv) rFloor := op_fdiv
theorem op_modu : OpR X (binaryOp .Mod) rModu := op_mod
theorem op_power : OpR X (binaryOp .Pow) rPower := op_pow
theorem op_less : OpR X (compareOp .Lt) rLess := op_lt
theorem op_leq : OpR X (compareOp .LtE) rLeq := op_le
theorem op_more : OpR X (compareOp .Gt) rMore := op_gt
theorem op_geq : OpR X (compareOp .GtE) rGeq := op_ge
theorem un_negm : UnR X (unaryOp .USub) rNeg := un_neg
theorem sl_cut : SlR X (rCut X.K) := sl_list.or sl_tupA
theorem call_int : CallR X (.type "int") rInt := call_int1
theorem call_max (hc : X.calm = true) : CallR X (.builtin "max") rMax2 := call_max2 hc
theorem call_absI : CallR X (.builtin "abs") rAbs := call_abs
theorem call_srt : CallR X (.builtin "sorted") (rSrt X.K) := CallR.or cr_sortedI cr_sortedPO
end
/-! ### the built-ins' names -/
theorem b_len : bootBuiltins "len" = some (.builtin "len") := by decide +kernel
theorem b_isinstance : bootBuiltins "isinstance" = some (.builtin "isinstance") := by decide +kernel
theorem b_max : bootBuiltins "max" = some (.builtin "max") := by decide +kernel
theorem b_abs : bootBuiltins "abs" = some (.builtin "abs") := by decide +kernel
theorem b_sorted : bootBuiltins "sorted" = some (.builtin "sorted") := by decide +kernel
theorem b_tuple : bootBuiltins "tuple" = some (.type "tuple") := by decide +kernel
theorem b_list : bootBuiltins "list" = some (.type "list") := by decide +kernel
theorem b_int : bootBuiltins "int" = some (.type "int") := by decide +kernel
theorem b_bool : bootBuiltins "bool" = some (.type "bool") := by decide +kernel
theorem b_str : bootBuiltins "str" = some (.type "str") := by decide +kernel
theorem b_set : bootBuiltins "set" = some (.type "set") := by decide +kernel
/-- no name of the module hides a built-in -/
structure Bt (mg : Str → Option Value) : Prop where
  k_len : mg "len" = none
  k_isinstance : mg "isinstance" = none
  k_max : mg "max" = none
  k_abs : mg "abs" = none
  k_sorted : mg "sorted" = none
  k_tuple : mg "tuple" = none
  k_list : mg "list" = none
  k_int : mg "int" = none
  k_bool : mg "bool" = none
  k_str : mg "str" = none
  k_set : mg "set" = none
  k_range : mg "range" = none
  k_ValueError : mg "ValueError" = none
/-- where the error classes stand -/
structure Exs where
  he : Addr
  nt : Addr
  nf : Addr
  nr : Addr
/-- what the text says of the error classes -/
structure Xt0 (K : PySem.W.Frag) (mg : Str → Option Value) (C : Exs) : Prop where
structure Xt1 (K : PySem.W.Frag) (mg : Str → Option Value) (C : Exs) : Prop where
  g_he : mg "HeapError" = some (.ref C.he)
  g_nt : mg "NoThing" = some (.ref C.nt)
  k_nt : PySem.W.keepIn K (.ref C.nt) = true
  b_nt : PySem.W.subIn K (.ref C.nt) (.type "BaseException") = some true
  t_nt : PySem.W.typeIn K (.ref C.nt) = some (.type "type")
  x_nt : PySem.W.excIn K C.nt [.type "ValueError", .type "Exception", .type "BaseException", .type "object"] "ValueError.__new__" = true
  m_tt : PySem.W.exmOne K (.ref C.nt) (.ref C.nt) = some true
  m_th : PySem.W.exmOne K (.ref C.nt) (.ref C.he) = some true
  s_tt : PySem.W.kitOne K (.ref C.nt) (.ref C.nt) = some true
  s_tv : PySem.W.kitOne K (.ref C.nt) (.type "ValueError") = some true
  e_nt : ExcC K C.nt
structure Xt2 (K : PySem.W.Frag) (mg : Str → Option Value) (C : Exs) : Prop extends Xt1 K mg C where
  g_nf : mg "NoField" = some (.ref C.nf)
  k_nf : PySem.W.keepIn K (.ref C.nf) = true
  b_nf : PySem.W.subIn K (.ref C.nf) (.type "BaseException") = some true
  t_nf : PySem.W.typeIn K (.ref C.nf) = some (.type "type")
  x_nf : PySem.W.excIn K C.nf [.type "ValueError", .type "Exception", .type "BaseException", .type "object"] "ValueError.__new__" = true
  m_tf : PySem.W.exmOne K (.ref C.nt) (.ref C.nf) = some false
  m_ft : PySem.W.exmOne K (.ref C.nf) (.ref C.nt) = some false
  m_ff : PySem.W.exmOne K (.ref C.nf) (.ref C.nf) = some true
  m_fh : PySem.W.exmOne K (.ref C.nf) (.ref C.he) = some true
  s_tf : PySem.W.kitOne K (.ref C.nt) (.ref C.nf) = some false
  s_ft : PySem.W.kitOne K (.ref C.nf) (.ref C.nt) = some false
  s_ff : PySem.W.kitOne K (.ref C.nf) (.ref C.nf) = some true
  s_fv : PySem.W.kitOne K (.ref C.nf) (.type "ValueError") = some true
  e_nf : ExcC K C.nf
structure Xt (K : PySem.W.Frag) (mg : Str → Option Value) (C : Exs) : Prop extends Xt2 K mg C where
  g_nr : mg "NoRoot" = some (.ref C.nr)
  k_nr : PySem.W.keepIn K (.ref C.nr) = true
  b_nr : PySem.W.subIn K (.ref C.nr) (.type "BaseException") = some true
  t_nr : PySem.W.typeIn K (.ref C.nr) = some (.type "type")
  x_nr : PySem.W.excIn K C.nr [.type "ValueError", .type "Exception", .type "BaseException", .type "object"] "ValueError.__new__" = true
  m_tr : PySem.W.exmOne K (.ref C.nt) (.ref C.nr) = some false
  m_fr : PySem.W.exmOne K (.ref C.nf) (.ref C.nr) = some false
  m_rt : PySem.W.exmOne K (.ref C.nr) (.ref C.nt) = some false
  m_rf : PySem.W.exmOne K (.ref C.nr) (.ref C.nf) = some false
  m_rr : PySem.W.exmOne K (.ref C.nr) (.ref C.nr) = some true
  m_rh : PySem.W.exmOne K (.ref C.nr) (.ref C.he) = some true
  s_tr : PySem.W.kitOne K (.ref C.nt) (.ref C.nr) = some false
  s_fr : PySem.W.kitOne K (.ref C.nf) (.ref C.nr) = some false
  s_rt : PySem.W.kitOne K (.ref C.nr) (.ref C.nt) = some false
  s_rf : PySem.W.kitOne K (.ref C.nr) (.ref C.nf) = some false
  s_rr : PySem.W.kitOne K (.ref C.nr) (.ref C.nr) = some true
  s_rv : PySem.W.kitOne K (.ref C.nr) (.type "ValueError") = some true
  e_nr : ExcC K C.nr
theorem Xt1.r_nt {X : Cx} {C : Exs} (T : Xt1 X.K X.mg C) : Raises X (.ref C.nt) := raises_own T.b_nt T.t_nt
theorem Xt2.r_nf {X : Cx} {C : Exs} (T : Xt2 X.K X.mg C) : Raises X (.ref C.nf) := raises_own T.b_nf T.t_nf
theorem Xt.r_nr {X : Cx} {C : Exs} (T : Xt X.K X.mg C) : Raises X (.ref C.nr) := raises_own T.b_nr T.t_nr
/-! ### the text's own defs -/
/-- the def by the name x keeps the promise sp, at level k -/
structure Fk (P : Program) (w : World) (K : PySem.W.Frag) (mg : Str → Option Value) (base : Heap) (CX : CXT) (k : Nat) (x : Str) (sp : Sp) : Prop where
  ex : ∃ (f : Addr) (fd : FuncData) (ps : List Str), FnOk P w K mg base CX k f fd ps sp ∧ mg x = some (.ref f) ∧ PySem.W.keepIn K (.ref f) = true ∧ Binds K fd ps []
section
variable {X : Cx} {CX : CXT} {k : Nat} {sp : Sp} {x : Str} {p pos : Pos} {e : Expr} {es : List Expr} {t : TA}
theorem pe_callF {E : XK} (F : Fk X.prog X.w X.K X.mg X.base CX k x sp) (hr : Room k X.A) (hx : Passes CX X E) (ha : PA X (e :: es) t) (hg : Gl X x := by rfl)
    (hdb : (x == ("__debug__" : Str)) = false := by decide) (he : starEach (e :: es) X.env = (false, eval e X.env) :: starEach es X.env := by rfl) (hpl : (backTo pos (starEach es X.env)).any (·.1) = false := by rfl) :
    PE X (.Call (.Name x p) (e :: es) [] pos) (tCall sp [] E t) := by
  obtain ⟨f, fd, ps, h1, h2, h3, h4⟩ := F.ex
  exact pe_call h1 hr hg h2 h3 h4 .nil hx ha hdb he hpl
theorem pe_callFS {E : L2.St → XK} (F : Fk X.prog X.w X.K X.mg X.base CX k x sp) (hr : Room k X.A) (hx : ∀ σ, PassesAt CX X σ (E σ)) (ha : PA X (e :: es) t) (hg : Gl X x := by rfl)
    (hdb : (x == ("__debug__" : Str)) = false := by decide) (he : starEach (e :: es) X.env = (false, eval e X.env) :: starEach es X.env := by rfl) (hpl : (backTo pos (starEach es X.env)).any (·.1) = false := by rfl) :
    PE X (.Call (.Name x p) (e :: es) [] pos) (tCallS sp E t) := by
  obtain ⟨f, fd, ps, h1, h2, h3, h4⟩ := F.ex
  exact pe_callS h1 hr hg h2 h3 h4 hx ha hdb he hpl
end
theorem Fk.of {P : Program} {w : World} {K : PySem.W.Frag} {mg : Str → Option Value} {base : Heap} {CX : CXT} {k : Nat} {x : Str} {sp : Sp} {f : Addr} {fd : FuncData} {ps : List Str} (h : FnOk P w K mg base CX k f fd ps sp) (g : mg x = some (.ref f)) (kp : PySem.W.keepIn K (.ref f) = true) (b : Binds K fd ps []) : Fk P w K mg base CX k x sp := ⟨_, _, _, h, g, kp, b⟩

/-! ### operators over data -/
section
variable {A : Am} {G : Gm} {M : Bxs} {R : D → Bxs → Prop} {i j : Int} {ds es : List D} {x y : D} {p : Addr}
theorem p_addI (k : R (.int (i + j)) M) : Op2 A (rPlus A.K) (.int i) (.int j) G M R := o_inl (o_I0 (fun _ => .int _) k)
theorem p_addT (hl : ds.length + es.length ≤ 10000000) (k : R (.tup (ds ++ es)) M) : Op2 A (rPlus A.K) (.tup ds) (.tup es) G M R := o_inr (o_inl (o_catT hl k))
theorem p_addL {p2 : Addr} (h1 : (p, .lst ds) ∈ M) (h2 : (p2, .lst es) ∈ M) (hl : ds.length + es.length ≤ 10000000) (k : ∀ l, R (.obj l) ((l, .lst (ds ++ es)) :: M)) : Op2 A (rPlus A.K) (.obj p) (.obj p2) G M R := o_inr (o_inr (o_catL h1 h2 hl k))
theorem p_sub (k : R (.int (i - j)) M) : Op2 A rMinus (.int i) (.int j) G M R := o_I0 (fun _ => .int _) k
theorem p_mul (hc : CMul i j) (k : R (.int (i * j)) M) : Op2 A rTimes (.int i) (.int j) G M R := o_I (fun _ => .int _) hc k
theorem p_div (hc : 0 < j ∧ j < 1073741824) (k : R (.int (i / j)) M) : Op2 A rFloor (.int i) (.int j) G M R := o_I (fun _ => .int _) hc k
theorem p_mod (hc : 0 < j) (k : R (.int (i % j)) M) : Op2 A rModu (.int i) (.int j) G M R := o_I (fun _ => .int _) hc k
theorem p_pow (hc : 0 ≤ j ∧ j ≤ 1000000 ∧ i.natAbs < 2 ^ 64) (k : R (.int (i ^ j.toNat)) M) : Op2 A rPower (.int i) (.int j) G M R := o_I (fun _ => .int _) hc k
theorem p_lt (k : R (.bl (decide (i < j))) M) : Op2 A rLess (.int i) (.int j) G M R := o_I0 (fun _ => .bl _) k
theorem p_le (k : R (.bl (decide (i ≤ j))) M) : Op2 A rLeq (.int i) (.int j) G M R := o_I0 (fun _ => .bl _) k
theorem p_gt (k : R (.bl (decide (j < i))) M) : Op2 A rMore (.int i) (.int j) G M R := o_I0 (fun _ => .bl _) k
theorem p_ge (k : R (.bl (decide (j ≤ i))) M) : Op2 A rGeq (.int i) (.int j) G M R := o_I0 (fun _ => .bl _) k
theorem p_neg (k : R (.int (-i)) M) : Op1 A rNeg (.int i) G M R := o_U (fun _ => .int _) k
theorem p_cutT {lo hi : Option Int} (k : R (.tup (cutD ds lo hi)) M) : Sl A (rCut A.K) (.tup ds) lo hi G M R := sl_inr (sl_T k)
theorem p_cutL {b : Box} {lo hi : Option Int} (hm : (p, b) ∈ M) (hb : b.rb = .l ds) (k : ∀ l, R (.obj l) ((l, .lst (cutD ds lo hi)) :: M)) : Sl A (rCut A.K) (.obj p) lo hi G M R := sl_inl (sl_L hm hb k)
theorem p_intB {b : Bool} (k : R (.int (if b then 1 else 0)) M) : Cl A rInt [.bl b] G M R := fun σ H vs S rv Q q => by
  obtain ⟨v, rfl, h⟩ := rv.one_inv
  cases h.bl_inv
  exact .inr ⟨b, rfl, q _ M _ H k S (.refl _) (.int _)⟩
theorem p_max (k : R (.int (if j > i then j else i)) M) : Cl A rMax2 [.int i, .int j] G M R := fun σ H vs S rv Q q => by
  obtain ⟨v, u, rfl, h, h'⟩ := rv.two_inv
  cases h.int_inv
  cases h'.int_inv
  exact ⟨i, j, rfl, q _ M _ H k S (.refl _) (.int _)⟩
theorem p_abs (k : R (.int (if i < 0 then -i else i)) M) : Cl A rAbs [.int i] G M R := fun σ H vs S rv Q q => by
  obtain ⟨v, rfl, h⟩ := rv.one_inv
  cases h.int_inv
  exact ⟨i, rfl, q _ M _ H k S (.refl _) (.int _)⟩
theorem p_sortI {b : Box} {ns : List Int} (hm : (p, b) ∈ M) (hb : b.rb = .l (ns.map D.int)) (k : ∀ (l : Addr) (ns' : List Int), ns'.Perm ns → ns'.Pairwise (· ≤ ·) → R (.obj l) ((l, .lst (ns'.map D.int)) :: M)) : Cl A (rSrt A.K) [.obj p] G M R := c_inl (c_sortedI hm hb k)
def pairD (q : Int × Int) : D := .tup [.int q.1, .int q.2]
theorem Rv.pair_inv {H : Hp} {v : V} {q : Int × Int} (h : Rv H v (pairD q)) : ∃ t, v = .ref t ∧ H t = some (.tup [.int q.1, .int q.2]) := by
  obtain ⟨a, xs, rfl, e, r⟩ := h.tup_inv
  obtain ⟨u, w, rfl, h1, h2⟩ := r.two_inv
  cases h1.int_inv
  cases h2.int_inv
  exact ⟨a, rfl, e⟩
/-- the pair that stands at v -/
noncomputable def pairAt (H : Hp) (v : V) : Int × Int := match v with
  | .ref t => (match H t with
    | some (.tup [.int i, .int j]) => (i, j)
    | _ => (0, 0))
  | _ => (0, 0)
theorem pairAt_eq {H : Hp} {v : V} {q : Int × Int} (h : Rv H v (pairD q)) : pairAt H v = q := by
  obtain ⟨t, rfl, e⟩ := h.pair_inv
  unfold pairAt
  simp only [e]
theorem pairs_at {H : Hp} : ∀ {vs : List V} {qs : List (Int × Int)}, Rvs H vs (qs.map pairD) → vs.map (pairAt H) = qs ∧ ∀ v ∈ vs, Rv H v (pairD (pairAt H v))
  | _, [], .nil => ⟨rfl, fun _ h => (by cases h)⟩
  | _, q :: qs, .cons h t => by
    obtain ⟨i1, i2⟩ := pairs_at t
    have e := pairAt_eq h
    refine ⟨by rw [List.map_cons, e, i1], fun v hv => ?_⟩
    rcases List.mem_cons.mp hv with rfl | hv
    · rw [e]; exact h
    · exact i2 v hv
theorem Rvs.of_mem {H : Hp} {f : V → D} : ∀ {vs : List V}, (∀ v ∈ vs, Rv H v (f v)) → Rvs H vs (vs.map f)
  | [], _ => .nil
  | v :: vs, h => .cons (h v List.mem_cons_self) (Rvs.of_mem fun u hu => h u (List.mem_cons_of_mem _ hu))
/-- sorted pairs: no later one is less -/
abbrev LexSorted (qs : List (Int × Int)) : Prop := qs.Pairwise fun a b => a.1 < b.1 ∨ (a.1 = b.1 ∧ a.2 ≤ b.2)
theorem p_sortP {b : Box} {qs : List (Int × Int)} (hm : (p, b) ∈ M) (hb : b.rb = .l (qs.map pairD)) (k : ∀ (l : Addr) (qs' : List (Int × Int)), qs'.Perm qs → LexSorted qs' → R (.obj l) ((l, .lst (qs'.map pairD)) :: M)) : Cl A (rSrt A.K) [.obj p] G M R := c_inr fun σ H vs S rv Q q => by
  obtain ⟨v, rfl, h⟩ := rv.one_inv
  cases h.obj_inv
  obtain ⟨xs, e, r⟩ := (S.box _ hm).seq hb
  obtain ⟨e1, e2⟩ := pairs_at r
  refine ⟨p, xs, pairAt H, rfl, e, fun x hx => ?_, fun ys l hs hst hl => ?_⟩
  · obtain ⟨t, e3, e4⟩ := (e2 x hx).pair_inv
    exact ⟨t, e3, e4⟩
  · have mem : ∀ y ∈ ys, Rv H y (pairD (pairAt H y)) := fun y hy => e2 y (hst.perm.mem_iff.mp hy)
    have r2 : Rvs H ys ((ys.map (pairAt H)).map pairD) := by
      rw [List.map_map]
      exact Rvs.of_mem mem
    obtain ⟨S2, t2, r3⟩ := new_lst S hl r2
    refine q _ _ _ _ (k l (ys.map (pairAt H)) (by rw [← e1]; exact hst.perm.map _) ?_) S2 t2 r3
    refine List.pairwise_map.mpr (List.Pairwise.imp (fun {a b} hab => ?_) hs)
    have := SrtO.lexB_no.mp hab
    omega
end
/-! ### errors -/
/-- raise C('..') -/
def tRaise (E : XK) (cls : Value) : TS := fun _ _ H => E cls none H
theorem ps_raiseT {X : Cx} {E : XK} {cls : Value} {e : Expr} {pos : Pos} (hc : X.calm = true) (tk : Takes X (fun cls d _ H => E cls d H)) (he : PMk X e (fun _ H Q => Q cls none H)) : PS X (.Raise (some e) none pos) (tRaise E cls) := ps_raise hc tk he
/-- try: .. except: .. -/
def tTry (K : PySem.W.Frag) (Wout : WX) (l : List (Value × (Addr → Value → Option Addr → TS))) (tb : WX → TS) : TS := fun D σ H => tb (wMany K Wout D l) D σ H
section
variable {A : Am} {G : Gm} {M : Bxs} {E : XK} {nx : L2.St → Hp → Prop} {rt : VK} {bk ct : L2.St → Hp → Prop} {Wout : WX} {l : List (Value × (Addr → Value → Option Addr → TS))} {tb : WX → TS} {c cls : Value} {ts : Addr → Value → Option Addr → TS} {De : Ends}
theorem ns_raise (h : Ew A E G M cls) : Ns A (tRaise E cls ⟨nx, rt, bk, ct⟩) G M := h
theorem ns_try (h : ∀ W, W = wMany A.K Wout ⟨nx, rt, bk, ct⟩ l → Ns A (tb W ⟨nx, rt, bk, ct⟩) G M) : Ns A (tTry A.K Wout l tb ⟨nx, rt, bk, ct⟩) G M := h _ rfl
theorem wm_hit (h : PySem.W.exmOne A.K cls c = some true) (k : ∀ a, Ns A (ts a cls none ⟨nx, rt, bk, ct⟩) G M) : EwS A (WE (wMany A.K Wout ⟨nx, rt, bk, ct⟩ ((c, ts) :: l))) G M cls := fun σ H S =>
  ⟨true, h, fun _ a _ => k a σ H S, fun z => nomatch z⟩
theorem wm_miss (h : PySem.W.exmOne A.K cls c = some false) (k : EwS A (WE (wMany A.K Wout ⟨nx, rt, bk, ct⟩ l)) G M cls) : EwS A (WE (wMany A.K Wout ⟨nx, rt, bk, ct⟩ ((c, ts) :: l))) G M cls := fun σ H S =>
  ⟨false, h, (fun z => nomatch z), fun _ => k σ H S⟩
end
end Mv

/-! Base6: a box by its place, short forms. -/
namespace Mv
open PySem PySem.Spec PyProof.Rows L2
theorem mem0 {α : Type} {a : α} {l : List α} : a ∈ a :: l := List.mem_cons_self
theorem mem1 {α : Type} {a b : α} {l : List α} : a ∈ b :: a :: l := List.mem_cons_of_mem _ mem0
theorem mem2 {α : Type} {a b c : α} {l : List α} : a ∈ b :: c :: a :: l := List.mem_cons_of_mem _ mem1
theorem mem3 {α : Type} {a b c d : α} {l : List α} : a ∈ b :: c :: d :: a :: l := List.mem_cons_of_mem _ mem2
theorem mem4 {α : Type} {a b c d e : α} {l : List α} : a ∈ b :: c :: d :: e :: a :: l := List.mem_cons_of_mem _ mem3
theorem mem5 {α : Type} {a b c d e f : α} {l : List α} : a ∈ b :: c :: d :: e :: f :: a :: l := List.mem_cons_of_mem _ mem4
theorem split_lit_t {P Q : Prop} (h : P) : (true = true → P) ∧ (true = false → Q) := ⟨fun _ => h, fun z => nomatch z⟩
theorem split_lit_f {P Q : Prop} (h : Q) : (false = true → P) ∧ (false = false → Q) := ⟨fun z => (nomatch z), fun _ => h⟩
theorem split_or_t {P Q : Prop} (h : Q) : (true = false → P) ∧ (true = true → Q) := ⟨fun z => (nomatch z), fun _ => h⟩
theorem split_or_f {P Q : Prop} (h : P) : (false = false → P) ∧ (false = true → Q) := ⟨fun _ => h, fun z => (nomatch z)⟩
theorem split_nf {P Q : Prop} (h : P) : ((!false) = true → P) ∧ ((!false) = false → Q) := ⟨fun _ => h, fun z => nomatch z⟩
theorem split_nt {P Q : Prop} (h : Q) : ((!true) = true → P) ∧ ((!true) = false → Q) := ⟨fun z => (nomatch z), fun _ => h⟩
theorem split_onf {P Q : Prop} (h : Q) : ((!false) = false → P) ∧ ((!false) = true → Q) := ⟨fun z => (nomatch z), fun _ => h⟩
theorem split_ont {P Q : Prop} (h : P) : ((!true) = false → P) ∧ ((!true) = true → Q) := ⟨fun _ => h, fun z => (nomatch z)⟩
theorem split_T {b : Bool} {P Q : Prop} (e : b = true) (h : P) : (b = true → P) ∧ (b = false → Q) := ⟨fun _ => h, fun z => by rw [e] at z; cases z⟩
theorem split_F {b : Bool} {P Q : Prop} (e : b = false) (h : Q) : (b = true → P) ∧ (b = false → Q) := ⟨(fun z => by rw [e] at z; cases z), fun _ => h⟩
theorem split_oT {b : Bool} {P Q : Prop} (e : b = true) (h : Q) : (b = false → P) ∧ (b = true → Q) := ⟨(fun z => by rw [e] at z; cases z), fun _ => h⟩
theorem split_oF {b : Bool} {P Q : Prop} (e : b = false) (h : P) : (b = false → P) ∧ (b = true → Q) := ⟨fun _ => h, fun z => by rw [e] at z; cases z⟩
theorem bl_ex {b : Bool} {P : Bool → Prop} (h : P b) : ∃ k, D.bl b = D.bl k ∧ P k := ⟨b, rfl, h⟩
/-- a test whose answer is a decision -/
theorem split_dec {c : Prop} [Decidable c] {P Q : Prop} (h1 : c → P) (h2 : ¬ c → Q) : (decide c = true → P) ∧ (decide c = false → Q) := ⟨fun z => h1 (of_decide_eq_true z), fun z => h2 (of_decide_eq_false z)⟩
theorem split_decn {c : Prop} [Decidable c] {P Q : Prop} (h1 : ¬ c → P) (h2 : c → Q) : ((!decide c) = true → P) ∧ ((!decide c) = false → Q) :=
  ⟨fun z => h1 (of_decide_eq_false (by simpa using z)), fun z => h2 (of_decide_eq_true (by simpa using z))⟩
theorem split_deco {c : Prop} [Decidable c] {P Q : Prop} (h1 : ¬ c → P) (h2 : c → Q) : (decide c = false → P) ∧ (decide c = true → Q) := ⟨fun z => h1 (of_decide_eq_false z), fun z => h2 (of_decide_eq_true z)⟩
/-! isinstance's answers -/
theorem kit_nt : kitB "NoneType" "tuple" = some false := by decide +kernel
theorem kit_bt : kitB "bool" "tuple" = some false := by decide +kernel
theorem kit_it : kitB "int" "tuple" = some false := by decide +kernel
theorem kit_st : kitB "str" "tuple" = some false := by decide +kernel
theorem kit_tt : kitB "tuple" "tuple" = some true := by decide +kernel
theorem kit_ni : kitB "NoneType" "int" = some false := by decide +kernel
theorem kit_bi : kitB "bool" "int" = some true := by decide +kernel
theorem kit_ii : kitB "int" "int" = some true := by decide +kernel
theorem kit_si : kitB "str" "int" = some false := by decide +kernel
theorem kit_ti : kitB "tuple" "int" = some false := by decide +kernel
theorem kit_nb : kitB "NoneType" "bool" = some false := by decide +kernel
theorem kit_bb : kitB "bool" "bool" = some true := by decide +kernel
theorem kit_ib : kitB "int" "bool" = some false := by decide +kernel
theorem kit_sb : kitB "str" "bool" = some false := by decide +kernel
theorem kit_tb : kitB "tuple" "bool" = some false := by decide +kernel
theorem kit_ns : kitB "NoneType" "str" = some false := by decide +kernel
theorem kit_bs : kitB "bool" "str" = some false := by decide +kernel
theorem kit_is : kitB "int" "str" = some false := by decide +kernel
theorem kit_ss : kitB "str" "str" = some true := by decide +kernel
theorem kit_ts : kitB "tuple" "str" = some false := by decide +kernel
theorem kit_ll : kitB "list" "list" = some true := by decide +kernel
section
variable {A : Am} {G : Gm} {M : Bxs} {R : D → Bxs → Prop} {ds : List D} {i : Int} {b : Bool} {x : Str} {p : Addr}
theorem i_nt (k : R (.bl false) M) : Cl A (rIsi A.K) [.non, .ty "tuple"] G M R := c_isi rfl kit_nt k
theorem i_bt (k : R (.bl false) M) : Cl A (rIsi A.K) [.bl b, .ty "tuple"] G M R := c_isi rfl kit_bt k
theorem i_it (k : R (.bl false) M) : Cl A (rIsi A.K) [.int i, .ty "tuple"] G M R := c_isi rfl kit_it k
theorem i_st (k : R (.bl false) M) : Cl A (rIsi A.K) [.str x, .ty "tuple"] G M R := c_isi rfl kit_st k
theorem i_tt (k : R (.bl true) M) : Cl A (rIsi A.K) [.tup ds, .ty "tuple"] G M R := c_isi rfl kit_tt k
theorem i_ni (k : R (.bl false) M) : Cl A (rIsi A.K) [.non, .ty "int"] G M R := c_isi rfl kit_ni k
theorem i_bi (k : R (.bl true) M) : Cl A (rIsi A.K) [.bl b, .ty "int"] G M R := c_isi rfl kit_bi k
theorem i_ii (k : R (.bl true) M) : Cl A (rIsi A.K) [.int i, .ty "int"] G M R := c_isi rfl kit_ii k
theorem i_si (k : R (.bl false) M) : Cl A (rIsi A.K) [.str x, .ty "int"] G M R := c_isi rfl kit_si k
theorem i_ti (k : R (.bl false) M) : Cl A (rIsi A.K) [.tup ds, .ty "int"] G M R := c_isi rfl kit_ti k
theorem i_nb (k : R (.bl false) M) : Cl A (rIsi A.K) [.non, .ty "bool"] G M R := c_isi rfl kit_nb k
theorem i_bb (k : R (.bl true) M) : Cl A (rIsi A.K) [.bl b, .ty "bool"] G M R := c_isi rfl kit_bb k
theorem i_ib (k : R (.bl false) M) : Cl A (rIsi A.K) [.int i, .ty "bool"] G M R := c_isi rfl kit_ib k
theorem i_sb (k : R (.bl false) M) : Cl A (rIsi A.K) [.str x, .ty "bool"] G M R := c_isi rfl kit_sb k
theorem i_tb (k : R (.bl false) M) : Cl A (rIsi A.K) [.tup ds, .ty "bool"] G M R := c_isi rfl kit_tb k
theorem i_ns (k : R (.bl false) M) : Cl A (rIsi A.K) [.non, .ty "str"] G M R := c_isi rfl kit_ns k
theorem i_bs (k : R (.bl false) M) : Cl A (rIsi A.K) [.bl b, .ty "str"] G M R := c_isi rfl kit_bs k
theorem i_is (k : R (.bl false) M) : Cl A (rIsi A.K) [.int i, .ty "str"] G M R := c_isi rfl kit_is k
theorem i_ss (k : R (.bl true) M) : Cl A (rIsi A.K) [.str x, .ty "str"] G M R := c_isi rfl kit_ss k
theorem i_ts (k : R (.bl false) M) : Cl A (rIsi A.K) [.tup ds, .ty "str"] G M R := c_isi rfl kit_ts k
theorem i_ll (h : (p, Box.lst ds) ∈ M) (k : R (.bl true) M) : Cl A (rIsi A.K) [.obj p, .ty "list"] G M R := c_isiL h kit_ll k
theorem fin0 {Gh : Type} {F : FS Gh} {g : Gh} {rt : VK} {E : XK} {d : D} (h : Fin A F g rt E) (k : F.post g d []) : Rt A rt G d M := h.1 G d M [] k (fun _ h => nomatch h) ⟨M, .nil⟩
end
theorem atI0 {α : Type} {a : α} {l : List α} : atI (a :: l) 0 = some a := by
  show (ixN (l.length + 1) 0).bind _ = _
  have : ixN (l.length + 1) 0 = some 0 := by unfold ixN; rw [if_pos (by omega), if_pos (by omega)]; rfl
  rw [this]; rfl
theorem atI1 {α : Type} {a b : α} {l : List α} : atI (a :: b :: l) 1 = some b := by
  show (ixN (l.length + 1 + 1) 1).bind _ = _
  have : ixN (l.length + 1 + 1) 1 = some 1 := by unfold ixN; rw [if_pos (by omega), if_pos (by omega)]; rfl
  rw [this]; rfl
theorem atI2 {α : Type} {a b c : α} {l : List α} : atI (a :: b :: c :: l) 2 = some c := by
  show (ixN (l.length + 1 + 1 + 1) 2).bind _ = _
  have : ixN (l.length + 1 + 1 + 1) 2 = some 2 := by unfold ixN; rw [if_pos (by omega), if_pos (by omega)]; rfl
  rw [this]; rfl
theorem atI3 {α : Type} {a b c d : α} {l : List α} : atI (a :: b :: c :: d :: l) 3 = some d := by
  show (ixN (l.length + 1 + 1 + 1 + 1) 3).bind _ = _
  have : ixN (l.length + 1 + 1 + 1 + 1) 3 = some 3 := by unfold ixN; rw [if_pos (by omega), if_pos (by omega)]; rfl
  rw [this]; rfl
/-- an int that is a place -/
theorem atI_of {α : Type} {xs : List α} {i : Int} {v : α} (h0 : 0 ≤ i) (h : xs[i.toNat]? = some v) : atI xs i = some v := by
  have e : i = (i.toNat : Int) := (Int.toNat_of_nonneg h0).symm
  rw [e]; exact atI_nat h
end Mv

/-! Base7: d.get(y, x) over a dict whose keys are tuples, whatever y is (None, a number, such a tuple). -/
namespace Mv
open PySem PySem.Spec PyProof.Rows L2
/-- None or an int -/
def Flat (v : Value) : Prop := v = .none ∨ ∃ i t, v = .int i t
theorem Flat.leaf {P : Program} {w : World} {v : Value} (h : Flat v) : ∃ k, (leafKind P w).is k v = true := by
  rcases h with rfl | ⟨i, t, rfl⟩
  · exact ⟨.none, rfl⟩
  · exact ⟨.num i, by show Leaf.isOf (.num i) (.int i t) = true; simp [Leaf.isOf]⟩
theorem Flat.val {v : Value} (h : Flat v) : carriedByValue v = true := by rcases h with rfl | ⟨i, t, rfl⟩ <;> rfl
theorem Flat.eqAt {A : Around} {s : Shared} {l : Addr} {items : Array Value} {v : Value} (h : Flat v) (hl : s.heap.IsTuple l items) (hu : A.units < cLine) : SeqAt.EqAt A s (.ref l) v false := by
  rcases h with rfl | ⟨i, t, rfl⟩
  · exact SeqAt.EqAt.tuple_none hl hu
  · exact SeqAt.EqAt.tuple_int i t hl hu
section
variable {prog : Program} {w : World} {K : Type} [DecidableEq K] {knd : KeyKind prog w K} {A : Around} {E : Value → Shared → Prop} {s : Shared}
theorem quiet_flat {v : Value} {n : Nat} {Q : Bool → Shared → Prop} (h : Flat v) (k : Q true s) : wpAny (model prog w) A (eqIsQuiet n v) Q E s := by
  rw [eqIsQuiet_byValue _ h.val]
  exact wpAny_pure k
theorem tell_flat {v : Value} {stored : List Value} {Q : Bool → Shared → Prop} (hv : Flat v) (hst : ∀ u ∈ stored, ∃ ks b, u = .ref b ∧ IsTupleKey knd s.heap ks b) (h : Q false s) : wpAny (model prog w) A (tableMayTell v stored) Q E s := by
  unfold tableMayTell
  split
  · exact wpAny_pure h
  · refine wpAny_bind (quiet_flat hv ?_)
    simp only [Bool.not_true, Bool.false_eq_true, if_false]
    refine wpAny_bind (wpAny_forIn_list _ (fun rest r s' => s' = s ∧ r = (none, ()) ∧ ∀ u ∈ rest, ∃ ks b, u = .ref b ∧ IsTupleKey knd s.heap ks b) _ ?_ ?_ _ _ ⟨rfl, rfl, hst⟩)
    · rintro x rest r s' ⟨rfl, rfl, hr⟩
      obtain ⟨ks, b, rfl, hb⟩ := hr x List.mem_cons_self
      refine wpAny_bind (wpAny_eqIsQuiet_tuple hb ?_)
      simp only [Bool.not_true, Bool.false_eq_true, if_false]
      exact wpAny_pure ⟨rfl, rfl, fun u hu => hr u (List.mem_cons_of_mem _ hu)⟩
    · rintro r s' ⟨rfl, rfl, _⟩
      exact wpAny_pure h
theorem wp_ite {α : Type} {c : Prop} [Decidable c] {X Y : Sem α} {Q : α → Shared → Prop} (hX : c → wpAny (model prog w) A X Q E s) (hY : ¬ c → wpAny (model prog w) A Y Q E s) : wpAny (model prog w) A (if c then X else Y) Q E s := by
  by_cases h : c
  · rw [if_pos h]; exact hX h
  · rw [if_neg h]; exact hY h
theorem find_flat {d : Addr} {v : Value} {hh : Int} {xs : List (List K × Addr × Value)} {Q : Option Nat → Shared → Prop} (hu : A.units < cLine) (hv : Flat v) (hm : s.heap.DictOfH (tupleKind knd) d xs) (k : Q none s) : wpAny (model prog w) A (dictFind d v hh) Q E s := by
  obtain ⟨o, es, ep, ho, _, hd, he, his, _⟩ := hm
  have ent : ∀ (i : Nat) (e : DictEntry), es[i]? = some e → ∃ ks b, e.key = Value.ref b ∧ IsTupleKey knd s.heap ks b := by
    intro i e h
    rw [entry_at he i] at h
    cases hx : xs[i]? with
    | none => rw [hx] at h; cases h
    | some x =>
      rw [hx] at h
      cases h
      exact ⟨x.1, x.2.1, rfl, his x (List.mem_of_getElem? hx)⟩
  have hst : ∀ u ∈ (placesWithHash es.size (fun i => es[i]?.map (·.hash)) hh).filterMap (fun i => es[i]?.map (·.key)), ∃ ks b, u = .ref b ∧ IsTupleKey knd s.heap ks b := by
    intro u hu
    obtain ⟨i, _, hi⟩ := List.mem_filterMap.mp hu
    cases hei : es[i]? with
    | none => rw [hei] at hi; cases hi
    | some e =>
      rw [hei] at hi
      obtain ⟨ks, b, h1, h2⟩ := ent i e hei
      refine ⟨ks, b, ?_, h2⟩
      have : e.key = u := by simpa using hi
      rw [← this, h1]
  have walk : ∀ (pl : List Nat), wpAny (model prog w) A (dictWalkPlain d v hh es pl) Q E s := by
    intro pl
    unfold dictWalkPlain
    refine wpAny_bind (wpAny_forIn_list _ (fun rest r s' => s' = s ∧ r = (none, ())) _ ?_ ?_ _ _ ⟨rfl, rfl⟩)
    · rintro x rest r s' ⟨rfl, rfl⟩
      cases hx : es[x]? with
      | none => exact wpAny_pure ⟨rfl, rfl⟩
      | some e =>
        dsimp only
        split
        · obtain ⟨ks, b, h1, h2⟩ := ent x e hx
          obtain ⟨ob, items, n, hob, hc, hdt, _⟩ := h2
          refine wpAny_bind (wpAny_dictEpoch ho hd (wpAny_bind ?_))
          rw [h1]
          refine hv.eqAt (items := items) ⟨ob, hob, hc, n, hdt⟩ hu _ _ _ _ (wpAny_bind (wpAny_dictEpoch ho hd ?_))
          rw [if_neg (by simp)]
          simp only [Bool.false_eq_true, if_false]
          first
            | exact wpAny_bind (wpAny_rule (wpAny_pure ⟨rfl, rfl⟩))
            | exact wpAny_bind (wpAny_pure (wpAny_bind (wpAny_rule (wpAny_pure ⟨rfl, rfl⟩))))
        · exact wpAny_pure ⟨rfl, rfl⟩
    · rintro r s' ⟨rfl, rfl⟩
      exact wpAny_pure k
  have hv' := hv
  unfold dictFind
  try with_reducible refine wpAny_holding ?_
  refine wpAny_bind (wpAny_dictEntries ho hd ?_)
  rcases hv with rfl | ⟨i, t, rfl⟩ <;> dsimp only
  all_goals
    refine wp_ite (fun _ => walk _) fun _ => ?_
    · rw [if_neg (fun z => by
        have z' := eq_of_beq z
        obtain ⟨ks, b, h1, _⟩ := hst _ (by rw [z']; exact List.mem_cons_self)
        cases h1)]
      refine wpAny_bind (tell_flat hv' hst ?_)
      rw [if_neg (by simp)]
      refine wpAny_bind (wpAny_forIn_list _ (fun rest r s' => s' = s ∧ r = (none, none)) _ ?_ ?_ _ _ ⟨rfl, rfl⟩)
      · rintro x rest r s' ⟨rfl, rfl⟩
        cases hx : es[x]? with
        | none => exact wpAny_pure ⟨rfl, rfl⟩
        | some e =>
          dsimp only
          split
          · obtain ⟨ks, b, h1, h2⟩ := ent x e hx
            obtain ⟨ob, items, n, hob, hc, hdt, _⟩ := h2
            refine wpAny_bind (wpAny_dictEpoch ho hd (wpAny_bind ?_))
            rw [h1]
            refine hv'.eqAt (items := items) ⟨ob, hob, hc, n, hdt⟩ hu _ _ _ _ (wpAny_bind (wpAny_dictEpoch ho hd ?_))
            rw [if_neg (by simp)]
            simp only [Bool.false_eq_true, if_false]
            refine wpAny_bind (wpAny_rule ?_)
            first | rw [if_neg (by simp)] | skip
            first
              | exact wpAny_pure ⟨rfl, rfl⟩
              | exact wpAny_bind (wpAny_pure (wpAny_pure ⟨rfl, rfl⟩))
          · exact wpAny_pure ⟨rfl, rfl⟩
      · rintro r s' ⟨rfl, rfl⟩
        exact wpAny_pure k
theorem dictGet_flat {d : Addr} {v : Value} {xs : List (List K × Addr × Value)} {Q : Option Value → Shared → Prop} (hu : A.units < cLine) (hv : Flat v) (hm : s.heap.DictOfH (tupleKind knd) d xs) (h : Q none { s with toks := s.toks + 1 }) : wpAny (model prog w) A (dictGet d v) Q E s := by
  obtain ⟨k, hk⟩ := hv.leaf (P := prog) (w := w)
  unfold dictGet
  try with_reducible refine wpAny_holding ?_
  refine wpAny_bind ((leafKind prog w).pyHash hk (wpAny_bind (find_flat (s := { s with toks := s.toks + 1 }) hu hv hm ?_)))
  exact wpAny_pure h
theorem get_flat {d : Addr} {v x : Value} {xs : List (List K × Addr × Value)} {Q : Value → Shared → Prop} (hu : A.units + 1 < cLine) (hv : Flat v) (hd : (d == sysModules) = false) (hm : s.heap.DictOfH (tupleKind knd) d xs)
    (h : Q x { s with toks := s.toks + 1 }) : wpAny (model prog w) A (call (.builtin "dict.get") [.ref d, v, x]) Q E s := by
  refine call_meetsIn PySem.F.slot_dict_get hm.typeIs PySem.F.entry_dict_get (PySem.F.args_dict_get_3 _ _ _) (S := fun A' R s' => A'.in1.units < cLine ∧ s' = s ∧ R (.ok (.ret x)) { s with toks := s.toks + 1 }) (.of_wp fun A' R s' ⟨hu', e, hr⟩ => ?_) ⟨tupleKind_room_in1 (knd := knd) hu, rfl, h⟩
  subst e
  show wpAny _ _ (dictGet d v >>= _) _ _ s'
  refine wpAny_bind (dictGet_flat hu' hv hm ?_)
  show wpAny _ _ (Builtin.Dict.missed d v >>= _) _ _ _
  exact wpAny_bind (wpAny_missed_other hd (wpAny_pure ⟨x, rfl, hr⟩))
end
/-! ### the reading, the rule, the data's rule -/
def FlatV : V → Prop
  | .non => True
  | .int _ => True
  | _ => False
theorem FlatV.flat {y : V} {u : Value} (h : FlatV y) (r : RelV y u) : Flat u := by
  cases y with
  | non => exact .inl r
  | int i => obtain ⟨t, e⟩ := r; exact .inr ⟨i, t, e⟩
  | _ => exact h.elim
def tDGetA (td ty tx : TE) : TE := fun σ H Q => td σ H fun x H1 => ∃ a, x = .ref a ∧ IsD H1 a ∧ ty σ H1 fun y H2 => tx σ H2 fun z H3 => (∃ o, DGet H3 a y o ∧ Q (o.getD z) H3) ∨ (FlatV y ∧ (∃ kvs, Rd H3 a (.dT kvs)) ∧ Q z H3)
theorem pe_dgetA {X : Cx} {o e f : Expr} {apos cpos : Pos} {td ty tx : TE} (hu : X.A.units + 1 < cLine) (ho : PE X o td) (he : PE X e ty) (hf : PE X f tx) (m : M2 X o "get" apos e f cpos) : PE X (.Call (.Attribute o "get" apos) [e, f] [] cpos) (tDGetA td ty tx) := ⟨fun pins s σ H Q I h => by
  refine wpAny_Call_method m.base m.few m.line PySem.F.plainAttrs_dict PySem.F.slot_dict_get PySem.F.type_dict_get (thn (ho.run pins s σ H _ I h) fun uu s1 ⟨x, H1, I1, rx, a, ex, dd, q1⟩ => ?_)
  subst ex
  cases (show uu = Value.ref a from rx)
  obtain ⟨t1, t2, _⟩ := isD_at I1 dd
  refine ⟨t1, t2, ?_⟩
  rw [m.trees]
  refine Calls.callWith_builtin rfl (Calls.evalArgs_plain (Calls.spliced_cons (thn (he.run pins s1 σ H1 _ I1 q1) fun iv s2 ⟨y, H2, I2, ry, q2⟩ => Calls.spliced_cons (thn (hf.run pins s2 σ H2 _ I2 q2) fun fv s3 ⟨z, H3, I3, rz, q3⟩ => Calls.spliced_nil ?_))))
  rcases q3 with ⟨ov, g, q3⟩ | ⟨fy, ⟨kvs, hr⟩, q3⟩
  · exact d_get2 hu I3 g ry rz fun w' s4 I4 rw' => ⟨_, H3, I4, rw', q3⟩
  · obtain ⟨_, hd, xs, _, ddh⟩ := dt_rd I3.hok hr
    exact get_flat hu (fy.flat ry) hd ddh ⟨_, H3, I3.tok _, rz, q3⟩⟩
section
variable {A : Am} {G : Gm} {M : Bxs} {td ty tx : TE} {R : D → Bxs → Prop}
/-- what d.get(y, z) gives over a dict at p -/
def GetAt (M : Bxs) (p : Addr) (y z r : D) : Prop := (∃ o, LookAt M p y o ∧ r = o.getD z) ∨ ((y = .non ∨ ∃ i, y = .int i) ∧ (∃ b kvs, (p, b) ∈ M ∧ Box.rb b = .t kvs) ∧ r = z)
theorem w_getA (h : We A td G M fun x M1 => ∃ p, x = .obj p ∧ IsTab M1 p ∧ We A ty G M1 fun y M2 => We A tx G M2 fun z M3 => ∃ r, GetAt M3 p y z r ∧ R r M3) : We A (tDGetA td ty tx) G M R := fun σ H S Q q =>
  h σ H S _ fun x M1 v H1 ⟨p, ex, hd, k⟩ S1 t1 r1 => by
    subst ex
    cases r1.obj_inv
    refine ⟨p, rfl, hd.isD S1, k σ H1 S1 _ fun y M2 u H2 k2 S2 t2 r2 => k2 σ H2 S2 _ fun z M3 w H3 ⟨r, hg, kk⟩ S3 t3 r3 => ?_⟩
    rcases hg with ⟨o, hl, rfl⟩ | ⟨hy, ⟨b, kvs, hm, hb⟩, rfl⟩
    · obtain ⟨o', g, ⟨rfl, rfl⟩ | ⟨d', w2, rfl, rfl, rw'⟩⟩ := hl.get S3 (r2.mono t3)
      · exact .inl ⟨_, g, q _ M3 _ H3 kk S3 ((t1.trans t2).trans t3) r3⟩
      · exact .inl ⟨_, g, q _ M3 _ H3 kk S3 ((t1.trans t2).trans t3) rw'⟩
    · obtain ⟨ws, e, _⟩ := (S3.box _ hm).tab hb
      refine .inr ⟨?_, ⟨ws, e⟩, q _ M3 _ H3 kk S3 ((t1.trans t2).trans t3) r3⟩
      rcases hy with rfl | ⟨i, rfl⟩
      · cases r2.non_inv; trivial
      · cases r2.int_inv; trivial
end
end Mv

/-! Base8: what the text says of the error classes, as one Bool; try: .. except C as e. -/
namespace Mv
open PySem PySem.Spec PyProof.Rows L2
def excB (K : PySem.W.Frag) (D : Addr) : Bool := He.eqO (PySem.W.findIn K (.ref D) "__getattribute__") (some (some (.builtin "BaseException.__getattribute__"))) && (He.eqO (PySem.W.findIn K (.ref D) "__getattr__") (some none) && (decide (PySem.W.subIn K (.ref D) (.type "BaseException") = some true) && (PySem.W.hasDictIn K D && (He.eqO (PySem.W.findIn K (.ref D) "__class__") (some (some (.builtin "object.__class__"))) &&
  (He.eqO (PySem.W.specialIn K (.builtin "object.__class__") "__get__") (some (some (.builtin "getset_descriptor.__get__"))) && (decide (PySem.W.takesIn K (.builtin "object.__class__") = some true) && decide (PySem.W.mroIn K D (.type "object") = some true)))))))
theorem excB_ok {K : PySem.W.Frag} {D : Addr} (h : excB K D = true) : ExcC K D := by
  obtain ⟨h1, h⟩ := He.ba h
  obtain ⟨h2, h⟩ := He.ba h
  obtain ⟨h3, h⟩ := He.ba h
  obtain ⟨h4, h⟩ := He.ba h
  obtain ⟨h5, h⟩ := He.ba h
  obtain ⟨h6, h⟩ := He.ba h
  obtain ⟨h7, h8⟩ := He.ba h
  exact ⟨He.eqO_ok h1, He.eqO_ok h2, of_decide_eq_true h3, h4, He.eqO_ok h5, He.eqO_ok h6, of_decide_eq_true h7, of_decide_eq_true h8⟩
abbrev xCs (K : PySem.W.Frag) : Exs := ⟨He.ga K "HeapError", He.ga K "NoThing", He.ga K "NoField", He.ga K "NoRoot"⟩
def xtB0 (K : PySem.W.Frag) : Bool := true
def xtL1 (K : PySem.W.Frag) (C : Exs) : List Bool := [
  PySem.W.keepIn K (.ref C.nt),
  decide (PySem.W.subIn K (.ref C.nt) (.type "BaseException") = some true),
  decide (PySem.W.typeIn K (.ref C.nt) = some (.type "type")),
  PySem.W.excIn K C.nt [.type "ValueError", .type "Exception", .type "BaseException", .type "object"] "ValueError.__new__",
  decide (PySem.W.exmOne K (.ref C.nt) (.ref C.nt) = some true),
  decide (PySem.W.exmOne K (.ref C.nt) (.ref C.he) = some true),
  decide (PySem.W.kitOne K (.ref C.nt) (.ref C.nt) = some true),
  decide (PySem.W.kitOne K (.ref C.nt) (.type "ValueError") = some true),
  excB K C.nt]
def xtB1 (K : PySem.W.Frag) : Bool := (xtL1 K (xCs K)).all id
theorem xt_of1 {K : PySem.W.Frag} {mg : Str → Option Value} (h : xtB1 K = true) (g_he : mg "HeapError" = some (.ref (He.ga K "HeapError"))) (g_nt : mg "NoThing" = some (.ref (He.ga K "NoThing"))) : Xt1 K mg (xCs K) := by
  have hh := h
  have q : ∀ (i : Nat) (b : Bool), (xtL1 K (xCs K))[i]? = some b → b = true := fun i b hb => List.all_eq_true.mp hh b (List.mem_of_getElem? hb)
  have h0 := q 0 _ rfl
  have h1 := q 1 _ rfl
  have h2 := q 2 _ rfl
  have h3 := q 3 _ rfl
  have h4 := q 4 _ rfl
  have h5 := q 5 _ rfl
  have h6 := q 6 _ rfl
  have h7 := q 7 _ rfl
  have h8 := q 8 _ rfl
  exact { g_he := g_he, g_nt := g_nt, k_nt := h0, b_nt := of_decide_eq_true h1, t_nt := of_decide_eq_true h2, x_nt := h3, m_tt := of_decide_eq_true h4, m_th := of_decide_eq_true h5, s_tt := of_decide_eq_true h6, s_tv := of_decide_eq_true h7, e_nt := excB_ok h8 }
def xtL2 (K : PySem.W.Frag) (C : Exs) : List Bool := [
  PySem.W.keepIn K (.ref C.nf),
  decide (PySem.W.subIn K (.ref C.nf) (.type "BaseException") = some true),
  decide (PySem.W.typeIn K (.ref C.nf) = some (.type "type")),
  PySem.W.excIn K C.nf [.type "ValueError", .type "Exception", .type "BaseException", .type "object"] "ValueError.__new__",
  decide (PySem.W.exmOne K (.ref C.nt) (.ref C.nf) = some false),
  decide (PySem.W.exmOne K (.ref C.nf) (.ref C.nt) = some false),
  decide (PySem.W.exmOne K (.ref C.nf) (.ref C.nf) = some true),
  decide (PySem.W.exmOne K (.ref C.nf) (.ref C.he) = some true),
  decide (PySem.W.kitOne K (.ref C.nt) (.ref C.nf) = some false),
  decide (PySem.W.kitOne K (.ref C.nf) (.ref C.nt) = some false),
  decide (PySem.W.kitOne K (.ref C.nf) (.ref C.nf) = some true),
  decide (PySem.W.kitOne K (.ref C.nf) (.type "ValueError") = some true),
  excB K C.nf]
def xtB2 (K : PySem.W.Frag) : Bool := xtB1 K && (xtL2 K (xCs K)).all id
theorem xt_of2 {K : PySem.W.Frag} {mg : Str → Option Value} (h : xtB2 K = true) (g_he : mg "HeapError" = some (.ref (He.ga K "HeapError"))) (g_nt : mg "NoThing" = some (.ref (He.ga K "NoThing"))) (g_nf : mg "NoField" = some (.ref (He.ga K "NoField"))) : Xt2 K mg (xCs K) := by
  obtain ⟨hp, hh⟩ := He.ba h
  have q : ∀ (i : Nat) (b : Bool), (xtL2 K (xCs K))[i]? = some b → b = true := fun i b hb => List.all_eq_true.mp hh b (List.mem_of_getElem? hb)
  have h0 := q 0 _ rfl
  have h1 := q 1 _ rfl
  have h2 := q 2 _ rfl
  have h3 := q 3 _ rfl
  have h4 := q 4 _ rfl
  have h5 := q 5 _ rfl
  have h6 := q 6 _ rfl
  have h7 := q 7 _ rfl
  have h8 := q 8 _ rfl
  have h9 := q 9 _ rfl
  have h10 := q 10 _ rfl
  have h11 := q 11 _ rfl
  have h12 := q 12 _ rfl
  have base := xt_of1 hp g_he g_nt
  exact { base with g_nf := g_nf, k_nf := h0, b_nf := of_decide_eq_true h1, t_nf := of_decide_eq_true h2, x_nf := h3, m_tf := of_decide_eq_true h4, m_ft := of_decide_eq_true h5, m_ff := of_decide_eq_true h6, m_fh := of_decide_eq_true h7, s_tf := of_decide_eq_true h8, s_ft := of_decide_eq_true h9, s_ff := of_decide_eq_true h10, s_fv := of_decide_eq_true h11, e_nf := excB_ok h12 }
def xtL3 (K : PySem.W.Frag) (C : Exs) : List Bool := [
  PySem.W.keepIn K (.ref C.nr),
  decide (PySem.W.subIn K (.ref C.nr) (.type "BaseException") = some true),
  decide (PySem.W.typeIn K (.ref C.nr) = some (.type "type")),
  PySem.W.excIn K C.nr [.type "ValueError", .type "Exception", .type "BaseException", .type "object"] "ValueError.__new__",
  decide (PySem.W.exmOne K (.ref C.nt) (.ref C.nr) = some false),
  decide (PySem.W.exmOne K (.ref C.nf) (.ref C.nr) = some false),
  decide (PySem.W.exmOne K (.ref C.nr) (.ref C.nt) = some false),
  decide (PySem.W.exmOne K (.ref C.nr) (.ref C.nf) = some false),
  decide (PySem.W.exmOne K (.ref C.nr) (.ref C.nr) = some true),
  decide (PySem.W.exmOne K (.ref C.nr) (.ref C.he) = some true),
  decide (PySem.W.kitOne K (.ref C.nt) (.ref C.nr) = some false),
  decide (PySem.W.kitOne K (.ref C.nf) (.ref C.nr) = some false),
  decide (PySem.W.kitOne K (.ref C.nr) (.ref C.nt) = some false),
  decide (PySem.W.kitOne K (.ref C.nr) (.ref C.nf) = some false),
  decide (PySem.W.kitOne K (.ref C.nr) (.ref C.nr) = some true),
  decide (PySem.W.kitOne K (.ref C.nr) (.type "ValueError") = some true),
  excB K C.nr]
def xtB3 (K : PySem.W.Frag) : Bool := xtB2 K && (xtL3 K (xCs K)).all id
theorem xt_of3 {K : PySem.W.Frag} {mg : Str → Option Value} (h : xtB3 K = true) (g_he : mg "HeapError" = some (.ref (He.ga K "HeapError"))) (g_nt : mg "NoThing" = some (.ref (He.ga K "NoThing"))) (g_nf : mg "NoField" = some (.ref (He.ga K "NoField"))) (g_nr : mg "NoRoot" = some (.ref (He.ga K "NoRoot"))) : Xt K mg (xCs K) := by
  obtain ⟨hp, hh⟩ := He.ba h
  have q : ∀ (i : Nat) (b : Bool), (xtL3 K (xCs K))[i]? = some b → b = true := fun i b hb => List.all_eq_true.mp hh b (List.mem_of_getElem? hb)
  have h0 := q 0 _ rfl
  have h1 := q 1 _ rfl
  have h2 := q 2 _ rfl
  have h3 := q 3 _ rfl
  have h4 := q 4 _ rfl
  have h5 := q 5 _ rfl
  have h6 := q 6 _ rfl
  have h7 := q 7 _ rfl
  have h8 := q 8 _ rfl
  have h9 := q 9 _ rfl
  have h10 := q 10 _ rfl
  have h11 := q 11 _ rfl
  have h12 := q 12 _ rfl
  have h13 := q 13 _ rfl
  have h14 := q 14 _ rfl
  have h15 := q 15 _ rfl
  have h16 := q 16 _ rfl
  have base := xt_of2 hp g_he g_nt g_nf
  exact { base with g_nr := g_nr, k_nr := h0, b_nr := of_decide_eq_true h1, t_nr := of_decide_eq_true h2, x_nr := h3, m_tr := of_decide_eq_true h4, m_fr := of_decide_eq_true h5, m_rt := of_decide_eq_true h6, m_rf := of_decide_eq_true h7, m_rr := of_decide_eq_true h8, m_rh := of_decide_eq_true h9, s_tr := of_decide_eq_true h10, s_fr := of_decide_eq_true h11, s_rt := of_decide_eq_true h12, s_rf := of_decide_eq_true h13, s_rr := of_decide_eq_true h14, s_rv := of_decide_eq_true h15, e_nr := excB_ok h16 }
/-! ### try: .. except C as e: suite -/
/-- the suite, b its reading by the error's class and place -/
def tSuite (K : PySem.W.Frag) (b : Addr → Addr → TS) : Addr → Value → Option Addr → TS := fun a cls d D σ H => ∃ Dx, cls = .ref Dx ∧ d = none ∧ ExcC K Dx ∧ b Dx a D σ H
def tTryAs (K : PySem.W.Frag) (c : Value) (i : Nat) (ts : Addr → Value → Option Addr → TS) (Wout : WX) (tb : WX → TS) : TS := fun D σ H => tb (wAs K c i ts Wout D) D σ H
section
variable {A : Am} {G : Gm} {M : Bxs} {R : D → Bxs → Prop} {nx : L2.St → Hp → Prop} {rt : VK} {bk ct : L2.St → Hp → Prop} {Wout : WX} {tb : WX → TS} {c cls : Value} {b : Addr → Addr → TS} {De : Ends} {i : Nat} {Dx a : Addr}
theorem w_ref {c2 : Addr} (k : R (.obj c2) M) : We A (tC (.ref c2)) G M R := fun σ H S Q q => q _ M _ H k S (.refl _) (.obj _)
end
end Mv

/-! Data: heaps as plain data, and what the operations give on them. -/
namespace Mv
open PySem PySem.Spec PyProof.Rows L2

/-- the words of pointers: young, old, thing, root -/
inductive Wd where
  | y | o | t | r
  deriving DecidableEq
/-- a value: None, a number, a pointer -/
inductive Val where
  | non | num (i : Int) | ptr (w : Wd) (p : Int)
  deriving DecidableEq
def wordS : Wd → Str
  | .y => "young"
  | .o => "old"
  | .t => "thing"
  | .r => "root"
def Val.d : Val → D
  | .non => .non
  | .num i => .int i
  | .ptr w p => .tup [.str (wordS w), .int p]
abbrev row (vs : List Val) : D := .tup (vs.map Val.d)
structure Thing where
  age : Int
  fs : List Val
  deriving DecidableEq
def Thing.d (t : Thing) : D := .tup [.int t.age, row t.fs]
structure Hep where
  yo : List Thing
  ol : List Thing
  ro : List Val
  bk : List (Int × Int)
  deriving DecidableEq
abbrev things (l : List Thing) : D := .tup (l.map Thing.d)
abbrev pairs (l : List (Int × Int)) : D := .tup (l.map pairD)
def Hep.d (h : Hep) : D := .tup [things h.yo, things h.ol, row h.ro, pairs h.bk]
def Hep.half (h : Hep) : Wd → List Thing
  | .y => h.yo
  | _ => h.ol
def inR (p : Int) (n : Nat) : Bool := decide (0 ≤ p) && decide (p < (n : Int))
def Hep.leads (h : Hep) (w : Wd) (p : Int) : Bool := inR p (h.half w).length
def Val.isP : Val → Bool
  | .ptr _ _ => true
  | _ => false
def Val.yng : Val → Bool
  | .ptr .y _ => true
  | _ => false
/-- the value leads to a thing, or is no pointer -/
def Hep.okV (h : Hep) : Val → Bool
  | .ptr w p => h.leads w p
  | _ => true
/-- a pointer's word is young or old -/
def Val.yo : Val → Bool
  | .ptr .t _ => false
  | .ptr .r _ => false
  | _ => true
/-- the pairs of the fields that point to young things -/
def pairsOf (place : Int) (fs : List Val) : List (Int × Int) := ((List.range fs.length).filter fun k => (fs.getD k .non).yng).map fun (k : Nat) => (place, (k : Int))
def bookFrom : Nat → List Thing → List (Int × Int)
  | _, [] => []
  | n, t :: l => pairsOf (n : Int) t.fs ++ bookFrom (n + 1) l
def bookOf (l : List Thing) : List (Int × Int) := bookFrom 0 l
def Thing.all (p : Val → Bool) (t : Thing) : Bool := t.fs.all p
/-- all pointers lead to things, the book is right -/
structure Snd (h : Hep) : Prop where
  ro : ∀ v ∈ h.ro, h.okV v = true ∧ v.yo = true
  yo : ∀ t ∈ h.yo, ∀ v ∈ t.fs, h.okV v = true ∧ v.yo = true
  ol : ∀ t ∈ h.ol, ∀ v ∈ t.fs, h.okV v = true ∧ v.yo = true
  bk : h.bk = bookOf h.ol
/-- no more than the document's bounds -/
structure Few (h : Hep) : Prop where
  yo : h.yo.length ≤ 2000
  ol : h.ol.length ≤ 2000
  ro : h.ro.length ≤ 200
  fy : ∀ t ∈ h.yo, t.fs.length ≤ 200
  fo : ∀ t ∈ h.ol, t.fs.length ≤ 200

/-- a promise: the result is res, nothing else -/
abbrev fsV {Gh : Type} (args : Gh → List D) (pre : Gh → Prop) (res : Gh → D) : FS Gh := { args := args, pre := pre, post := fun g d M' => d = res g ∧ M' = [] }
/-- .. it may raise -/
abbrev fsX {Gh : Type} (args : Gh → List D) (pre : Gh → Prop) (res : Gh → D → Prop) (exc : Gh → Value → Prop) : FS Gh := { args := args, pre := pre, post := fun g d M' => res g d ∧ M' = [], exc := exc }
/-- .. some result of that kind; it reads what rs says -/
abbrev fsR {Gh : Type} (args : Gh → List D) (rs : Gh → List (Addr × Rb)) (pre : Gh → Prop) (post : Gh → D → Prop) : FS Gh := { args := args, rs := rs, pre := pre, post := fun g d M' => post g d ∧ M' = [] }
/-- .. a new list -/
abbrev fsN {Gh : Type} (args : Gh → List D) (rs : Gh → List (Addr × Rb)) (pre : Gh → Prop) (res : Gh → List D) : FS Gh := { args := args, rs := rs, pre := pre, post := fun g d M' => ∃ p, d = .obj p ∧ M' = [(p, .lst (res g))] }
theorem rs1 {rb : Bxs} {a : Addr} {r : Rb} (h : RsOf rb [(a, r)]) : ∃ b, rb = [(a, b)] ∧ b.rb = r ∧ b.wr = false := by
  match rb, h with
  | [(a', b)], .cons h .nil =>
    obtain ⟨h1, h2, h3⟩ := h
    cases h1
    exact ⟨b, rfl, h2, h3⟩
section
variable {A : Am} {G : Gm} {M M1 M2 : Bxs} {R : D → Bxs → Prop} {W : L2.St → XK} {Gh : Type} {args : Gh → List D} {pre : Gh → Prop} {res : Gh → D} {ds : List D} {rs : Gh → List (Addr × Rb)}
theorem cf_v (g : Gh) (ha : args g = ds) (hp : pre g) (k : R (res g) M) : Cf A (fsV args pre res) W ds G M R := cf_pure (F := fsV args pre res) g ha hp fun d M' ⟨h1, h2⟩ => by subst h1 h2; exact k
theorem cf_x {post : Gh → D → Prop} {exc : Gh → Value → Prop} (g : Gh) (ha : args g = ds) (hp : pre g) (k : ∀ d, post g d → R d M) (kx : ∀ cls, exc g cls → EwS A W G M cls) : Cf A (fsX args pre post exc) W ds G M R :=
  ⟨g, M, [], M, ha, hp, fun _ h => (by cases h), .nil, .nil, .nil, fun d M' ⟨h1, h2⟩ => by subst h2; exact k d h1, kx⟩
theorem cf_r0 {post : Gh → D → Prop} (g : Gh) (ha : args g = ds) (hr : rs g = []) (hp : pre g) (k : ∀ d, post g d → R d M) : Cf A (fsR args rs pre post) W ds G M R :=
  ⟨g, M, [], M, ha, hp, fun _ h => (by cases h), .nil, .nil, by show SqOf [] (rs g); rw [hr]; exact .nil, fun d M' ⟨h1, h2⟩ => by subst h2; exact k d h1, fun _ h => h.elim⟩
theorem cf_r1 {post : Gh → D → Prop} {a : Addr} {b : Box} {r : Rb} (g : Gh) (ha : args g = ds) (hr : rs g = [(a, r)]) (h1 : Pick M (a, b) M1) (hb : b.rb = r) (hp : pre g) (k : ∀ d, post g d → R d M) : Cf A (fsR args rs pre post) W ds G M R :=
  ⟨g, M, [(a, b)], M1, ha, hp, fun _ h => (by cases h), .nil, .cons h1 .nil, by show SqOf _ (rs g); rw [hr]; exact .cons ⟨rfl, hb⟩ .nil, fun d M' ⟨h1, h2⟩ => by subst h2; exact k d h1, fun _ h => h.elim⟩
theorem cf_n0 {re : Gh → List D} (g : Gh) (ha : args g = ds) (hr : rs g = []) (hp : pre g) (k : ∀ p, R (.obj p) ((p, .lst (re g)) :: M)) : Cf A (fsN args rs pre re) W ds G M R :=
  ⟨g, M, [], M, ha, hp, fun _ h => (by cases h), .nil, .nil, by show SqOf [] (rs g); rw [hr]; exact .nil, fun d M' ⟨p, h1, h2⟩ => by subst h1 h2; exact k p, fun _ h => h.elim⟩
theorem fin_n {re : Gh → List D} {g : Gh} {rt : VK} {E : XK} {p : Addr} {l : Bxs} (h : Fin A (fsN args rs pre re) g rt E) (hm : Pick M (p, .lst (re g)) l) : Rt A rt G (.obj p) M := h.1 G _ M [(p, .lst (re g))] ⟨p, rfl, rfl⟩ (fun q hq => by cases List.mem_singleton.mp hq; rfl) ⟨l, .cons hm .nil⟩
end
theorem w_var' {A : Am} {G : Gm} {M : Bxs} {R : D → Bxs → Prop} {i : Nat} (h : ∃ d, G[i]? = some (some d) ∧ R d M) : We A (tVar i) G M R := let ⟨_, a, b⟩ := h; w_var a b
section
variable {A : Am} {G : Gm} {M : Bxs} {R : D → Bxs → Prop} {h : Hep} {t : Thing} {q : Int × Int} {o : Wd} {p : Int}
theorem x_h0 (k : R (things h.yo) M) : Op2 A (rIx A.K) h.d (.int 0) G M R := o_ixT atI0 k
theorem x_h1 (k : R (things h.ol) M) : Op2 A (rIx A.K) h.d (.int 1) G M R := o_ixT atI1 k
theorem x_h2 (k : R (row h.ro) M) : Op2 A (rIx A.K) h.d (.int 2) G M R := o_ixT atI2 k
theorem x_h3 (k : R (pairs h.bk) M) : Op2 A (rIx A.K) h.d (.int 3) G M R := o_ixT atI3 k
theorem x_t0 (k : R (.int t.age) M) : Op2 A (rIx A.K) t.d (.int 0) G M R := o_ixT atI0 k
theorem x_t1 (k : R (row t.fs) M) : Op2 A (rIx A.K) t.d (.int 1) G M R := o_ixT atI1 k
theorem x_p0 (k : R (.int q.1) M) : Op2 A (rIx A.K) (pairD q) (.int 0) G M R := o_ixT atI0 k
theorem x_p1 (k : R (.int q.2) M) : Op2 A (rIx A.K) (pairD q) (.int 1) G M R := o_ixT atI1 k
theorem x_v0 (k : R (.str (wordS o)) M) : Op2 A (rIx A.K) (Val.ptr o p).d (.int 0) G M R := o_ixT atI0 k
theorem x_v1 (k : R (.int p) M) : Op2 A (rIx A.K) (Val.ptr o p).d (.int 1) G M R := o_ixT atI1 k
theorem x_c0 {a : D} {l : List D} (k : R a M) : Op2 A (rIx A.K) (.tup (a :: l)) (.int 0) G M R := o_ixT atI0 k
theorem x_c1 {a b : D} {l : List D} (k : R b M) : Op2 A (rIx A.K) (.tup (a :: b :: l)) (.int 1) G M R := o_ixT atI1 k
theorem x_map {α : Type} {xs : List α} {f : α → D} {i : Int} {x : α} (h0 : 0 ≤ i) (hx : xs[i.toNat]? = some x) (k : R (f x) M) : Op2 A (rIx A.K) (.tup (xs.map f)) (.int i) G M R :=
  o_ixT (atI_of h0 (by rw [List.getElem?_map, hx]; rfl)) k
theorem x_lmap {α : Type} {xs : List α} {f : α → D} {i : Int} {x : α} {a : Addr} {b : Box} (hm : (a, b) ∈ M) (hb : b.rb = .l (xs.map f)) (h0 : 0 ≤ i) (hx : xs[i.toNat]? = some x) (k : R (f x) M) : Op2 A (rIx A.K) (.obj a) (.int i) G M R :=
  o_ixL hm hb (atI_of h0 (by rw [List.getElem?_map, hx]; rfl)) k
theorem n_map {α : Type} {xs : List α} {f : α → D} (k : R (.int (xs.length : Int)) M) : Cl A (rLenS A.K) [.tup (xs.map f)] G M R := c_lenT (by rw [List.length_map]; exact k)
theorem n_lmap {α : Type} {xs : List α} {f : α → D} {a : Addr} {b : Box} (hm : (a, b) ∈ M) (hb : b.rb = .l (xs.map f)) (k : R (.int (xs.length : Int)) M) : Cl A (rLenS A.K) [.obj a] G M R := c_lenL hm hb (by rw [List.length_map]; exact k)
theorem eq_str {a b : Str} : eqD (.str a) (.str b) = decide (a = b) := by
  show (a == b) = _
  by_cases h : a = b
  · subst h; simp
  · rw [decide_eq_false h]; simpa using h
theorem eq_int {a b : Int} : eqD (.int a) (.int b) = decide (a = b) := by
  show (a == b) = _
  by_cases h : a = b
  · subst h; simp
  · rw [decide_eq_false h]; simpa using h
theorem eq_bl {a b : Bool} : eqD (.bl a) (.bl b) = (a == b) := rfl
theorem ok_int {i : Int} : okD (.int i) = true := rfl
theorem ok_bl {i : Bool} : okD (.bl i) = true := rfl
theorem ok_word : okD (.str (wordS o)) = true := by cases o <;> decide +kernel
theorem ok_young : okD (.str "young") = true := by decide +kernel
theorem ok_old : okD (.str "old") = true := by decide +kernel
def Wd.isY : Wd → Bool
  | .y => true
  | _ => false
def Wd.isO : Wd → Bool
  | .o => true
  | _ => false
theorem word_y : decide (wordS o = ("young" : Str)) = o.isY := by cases o <;> decide
theorem word_o : decide (wordS o = ("old" : Str)) = o.isO := by cases o <;> decide
/-- pointer[0] == "young" -/
theorem e_wy (k : R (.bl o.isY) M) : Op2 A (rEqD A.K) (.str (wordS o)) (.str "young") G M R := o_eq ok_word ok_young (by rw [eq_str, word_y]; exact k)
theorem e_wo (k : R (.bl o.isO) M) : Op2 A (rEqD A.K) (.str (wordS o)) (.str "old") G M R := o_eq ok_word ok_old (by rw [eq_str, word_o]; exact k)
theorem e_ii {i j : Int} (k : R (.bl (decide (i = j))) M) : Op2 A (rEqD A.K) (.int i) (.int j) G M R := o_eq ok_int ok_int (by rw [eq_int]; exact k)
theorem ne_ii {i j : Int} (k : R (.bl (!decide (i = j))) M) : Op2 A (rNeD A.K) (.int i) (.int j) G M R := o_ne ok_int ok_int (by rw [eq_int]; exact k)
theorem e_bb {i j : Bool} (k : R (.bl (i == j)) M) : Op2 A (rEqD A.K) (.bl i) (.bl j) G M R := o_eq ok_bl ok_bl k
theorem ne_bb {i j : Bool} (k : R (.bl (!(i == j))) M) : Op2 A (rNeD A.K) (.bl i) (.bl j) G M R := o_ne ok_bl ok_bl k
/-- isinstance(value, tuple) -/
theorem i_vt {v : Val} (k : R (.bl v.isP) M) : Cl A (rIsi A.K) [v.d, .ty "tuple"] G M R := by
  cases v with
  | non => exact i_nt k
  | num i => exact i_it k
  | ptr w p => exact i_tt k
theorem ok_val {v : Val} : okD v.d = true := by
  cases v with
  | non => rfl
  | num i => rfl
  | ptr w p =>
    cases w <;> (unfold Val.d okD D.cl D.cls; simp [D.cls, D.cl, SeqAt.shaped, D.py, D.pys, PyData.canLay0, PyData.canLayAll0, wordS, PyData.depth, PyData.depthAll]; try decide +kernel)
theorem nn_n (k : R (.bl true) M) : Op2 A rIsN .non .non G M R := o_isN k
theorem nn_i {i : Int} (k : R (.bl false) M) : Op2 A rIsN (.int i) .non G M R := o_isN k
theorem nn_t {ds : List D} (k : R (.bl false) M) : Op2 A rIsN (.tup ds) .non G M R := o_isN k
theorem n_c2 {a b : D} (k : R (.int 2) M) : Cl A (rLenS A.K) [.tup [a, b]] G M R := c_lenT k
theorem n_c4 {a b c d : D} (k : R (.int 4) M) : Cl A (rLenS A.K) [.tup [a, b, c, d]] G M R := c_lenT k
theorem n_v (k : R (.int 2) M) : Cl A (rLenS A.K) [(Val.ptr o p).d] G M R := n_c2 k
theorem n_t (k : R (.int 2) M) : Cl A (rLenS A.K) [t.d] G M R := n_c2 k
theorem n_p (k : R (.int 2) M) : Cl A (rLenS A.K) [pairD q] G M R := n_c2 k
theorem n_h (k : R (.int 4) M) : Cl A (rLenS A.K) [h.d] G M R := n_c4 k
theorem i_tht (k : R (.bl true) M) : Cl A (rIsi A.K) [t.d, .ty "tuple"] G M R := i_tt k
theorem i_pt (k : R (.bl true) M) : Cl A (rIsi A.K) [pairD q, .ty "tuple"] G M R := i_tt k
theorem i_ht (k : R (.bl true) M) : Cl A (rIsi A.K) [h.d, .ty "tuple"] G M R := i_tt k
theorem eq_val {a b : Val} : eqD a.d b.d = decide (a = b) := by
  cases a with
  | non => cases b <;> rfl
  | num i =>
    cases b with
    | num j =>
      show eqD (.int i) (.int j) = _
      rw [eq_int]
      by_cases h : i = j
      · subst h; simp
      · simp [h]
    | non => rfl
    | ptr w p => rfl
  | ptr w p =>
    cases b with
    | ptr w2 p2 =>
      show (eqD (.str (wordS w)) (.str (wordS w2)) && (eqD (.int p) (.int p2) && true)) = _
      rw [eq_str, eq_int]
      have e1 : decide (wordS w = wordS w2) = decide (w = w2) := by cases w <;> cases w2 <;> decide
      rw [e1]
      by_cases h1 : w = w2
      · subst h1
        by_cases h2 : p = p2
        · subst h2; simp
        · simp [h2]
      · simp [h1]
    | non => rfl
    | num j => rfl
theorem e_vv {a b : Val} (k : R (.bl (decide (a = b))) M) : Op2 A (rEqD A.K) a.d b.d G M R := o_eq ok_val ok_val (by rw [eq_val]; exact k)
theorem eq_pair {a b : Int × Int} : eqD (pairD a) (pairD b) = decide (a = b) := by
  obtain ⟨a1, a2⟩ := a
  obtain ⟨b1, b2⟩ := b
  show (eqD (.int a1) (.int b1) && (eqD (.int a2) (.int b2) && true)) = _
  rw [eq_int, eq_int]
  by_cases h1 : a1 = b1
  · by_cases h2 : a2 = b2
    · simp [h1, h2]
    · simp [h1, h2]
  · simp [h1]
theorem ok_pair : okD (pairD q) = true := by unfold pairD; rfl
theorem ne_pp {a b : Int × Int} (k : R (.bl (!decide (a = b))) M) : Op2 A (rNeD A.K) (pairD a) (pairD b) G M R := o_ne ok_pair ok_pair (by rw [eq_pair]; exact k)
theorem pow60 : (0 : Int) < 10 ^ (60 : Int).toNat := by decide
theorem p_pow60 (k : R (.int (10 ^ (60 : Int).toNat)) M) : Op2 A rPower (.int 10) (.int 60) G M R := p_pow ⟨by decide, by decide, by decide⟩ k
theorem p_mod60 {i : Int} (k : R (.int (i % 10 ^ (60 : Int).toNat)) M) : Op2 A rModu (.int i) (.int (10 ^ (60 : Int).toNat)) G M R := p_mod pow60 k
/-- an item of a written list of two -/
theorem x_two {a : Addr} {x y : D} {i : Int} (hm : (a, Box.lst [x, y]) ∈ M) (h0 : 0 ≤ i) (h1 : i < 2) (k0 : i = 0 → R x M) (k1 : i = 1 → R y M) : Op2 A (rIx A.K) (.obj a) (.int i) G M R := by
  have : i = 0 ∨ i = 1 := by omega
  rcases this with rfl | rfl
  · exact o_ixL hm rfl atI0 (k0 rfl)
  · exact o_ixL hm rfl atI1 (k1 rfl)
end
/-! ### short ways -/
theorem set_id {α : Type} : ∀ {l : List α} {i : Nat} {a : α}, l[i]? = some a → l.set i a = l
  | [], _, _, h => by cases h
  | _ :: _, 0, _, h => by cases h; rfl
  | _ :: l, i + 1, a, h => by rw [List.set_cons_succ, set_id (l := l) (by simpa using h)]
section
variable {A : Am} {G : Gm} {M : Bxs} {te : TE} {t : TT} {nx : L2.St → Hp → Prop} {rt : VK} {bk ct : L2.St → Hp → Prop} {R : D → Bxs → Prop} {tl : TE} {wa : TA} {j : Nat}
/-- if t: x = e -/
theorem ns_ifA {i : Nat} (P : D → Prop) (h : Wt A t G M fun b M1 => (b = true → We A te G M1 fun d M2 => M.Sublist M2 ∧ P d) ∧ (b = false → M.Sublist M1 ∧ ∃ d, G[i]? = some (some d) ∧ P d)) (k : ∀ d, P d → Ns A nx (G.set i (some d)) M) :
    Ns A (tIfS t (tAsg te (gName i)) tNext ⟨nx, rt, bk, ct⟩) G M :=
  ns_if fun σ H S Q q => h σ H S Q fun b M1 H1 ⟨ky, kn⟩ S1 t1 => q b M1 H1 ⟨fun e => ns_asg fun σ H S Q q => ky e σ H S Q fun d M2 v H1 ⟨hs, hp⟩ => q d M2 v H1 fun σ H S => k d hp σ H (S.sub hs), fun e σ H S => by
    obtain ⟨hs, d, hd, hp⟩ := kn e
    have z := k d hp σ H
    rw [set_id hd] at z
    exact z (S.sub hs)⟩ S1 t1
/-- a test of which only P is told -/
theorem ns_ifB {ts us : TS} (P : Bool → Prop) (h : Wt A t G M fun b M1 => P b ∧ M.Sublist M1) (k1 : P true → Ns A (ts ⟨nx, rt, bk, ct⟩) G M) (k2 : P false → Ns A (us ⟨nx, rt, bk, ct⟩) G M) : Ns A (tIfS t ts us ⟨nx, rt, bk, ct⟩) G M :=
  ns_if fun σ H S Q q => h σ H S Q fun b M1 H1 ⟨hp, hs⟩ S1 t1 => q b M1 H1 ⟨fun e σ H S => k1 (e ▸ hp) σ H (S.sub hs), fun e σ H S => k2 (e ▸ hp) σ H (S.sub hs)⟩ S1 t1
/-- an expression of which only P is told -/
theorem w_cut {te : TE} (P : D → Prop) (h : We A te G M fun d M1 => P d ∧ M.Sublist M1) (k : ∀ d, P d → R d M) : We A te G M R := fun σ H S Q q =>
  h σ H S Q fun d M1 v H1 ⟨hp, hs⟩ S1 t1 r1 => q d M v H1 (k d hp) (S1.sub hs) t1 r1
theorem grow_at {P : Nat → D → Prop} {acc : List D} {e : D} (h : ∀ (i : Nat) d, acc[i]? = some d → P i d) (he : P acc.length e) : ∀ (i : Nat) d, (acc ++ [e])[i]? = some d → P i d := fun i d hi => by
  by_cases hl : i < acc.length
  · rw [List.getElem?_append_left hl] at hi
    exact h i d hi
  · have : i = acc.length := by
      have := (List.getElem?_eq_some_iff.mp hi).1
      simp at this
      omega
    subst this
    rw [List.getElem?_append_right (by omega)] at hi
    simp at hi
    subst hi
    exact he
/-- a list of what e gives at each number -/
theorem w_lcRP {n : Int} (P : Nat → D → Prop) (h : Wa A wa G M fun ds M1 => ds = [.int n] ∧ (0 ≤ n ∧ n ≤ 9000000) ∧
      (∀ (p : Addr) (i : Nat) acc, (i : Int) < n → We A te (G.set j (some (.int (i : Int)))) ((p, .lst acc) :: M1) fun e M3 => P i e ∧ ((p, Box.lst acc) :: M1).Sublist M3) ∧
      ∀ p acc, (acc.length : Int) = n → (∀ (i : Nat) e, acc[i]? = some e → P i e) → R (.obj p) ((p, .lst acc) :: M1)) :
    We A (tLc (iRng1 wa) (gName j) tYes te [j]) G M R :=
  w_lcR1 (n := n) (fun i acc => acc.length = i ∧ ∀ (m : Nat) e, acc[m]? = some e → P m e) fun σ H S Q q => h σ H S Q fun ds M1 vs H1 ⟨h1, h2, h3, h4⟩ => q ds M1 vs H1 ⟨h1, by omega, ⟨rfl, fun m e h => by simp at h⟩, fun p i acc hi ⟨hl, ha⟩ =>
    wt_yes ⟨fun _ => fun σ H S Q q => h3 p i acc hi σ H S Q fun e M3 v H1 ⟨k1, k2⟩ => q e M3 v H1 ⟨by omega, ⟨by simp [hl], grow_at ha (hl ▸ k1)⟩, k2⟩, fun z => nomatch z⟩, fun p acc ⟨hl, ha⟩ => h4 p acc (by omega) ha⟩
/-- a list of what e gives at each item of a tuple -/
theorem w_lcTP {xs : List D} (P : Nat → D → Prop) (h : We A tl G M fun x M1 => x = .tup xs ∧ xs.length ≤ 9000000 ∧
      (∀ (Hb : Hp) (_ : TEx A.Hb Hb) (p : Addr) (i : Nat) acc d, xs[i]? = some d → We (A.re Hb) te (G.set j (some d)) ((p, .lst acc) :: M1) fun e M3 => P i e ∧ ((p, Box.lst acc) :: M1).Sublist M3) ∧
      ∀ p acc, acc.length = xs.length → (∀ (i : Nat) e, acc[i]? = some e → P i e) → R (.obj p) ((p, .lst acc) :: M1)) :
    We A (tLc (iSeq A.K tl) (gName j) tYes te [j]) G M R :=
  w_lcT (ds := xs) (fun i acc => acc.length = i ∧ ∀ (m : Nat) e, acc[m]? = some e → P m e) fun σ H S Q q => h σ H S Q fun x M1 vs H1 ⟨h1, h2, h3, h4⟩ => q x M1 vs H1 ⟨h1, ⟨rfl, fun m e h => by simp at h⟩, fun Hb ht p i acc d hi ⟨hl, ha⟩ =>
    wt_yes ⟨fun _ => fun σ H S Q q => h3 Hb ht p i acc d hi σ H S Q fun e M3 v H1 ⟨k1, k2⟩ => q e M3 v H1 ⟨by have := (List.getElem?_eq_some_iff.mp hi).1; omega, ⟨by simp [hl], grow_at ha (hl ▸ k1)⟩, k2⟩, fun z => nomatch z⟩, fun p acc ⟨hl, ha⟩ => h4 p acc hl ha⟩
end
/-- .. of the items of a list -/
theorem all_of {α β : Type} {f : α → D} {g : β → α} {bs : List β} {acc : List D} (hl : acc.length = bs.length) (h : ∀ (i : Nat) e b, acc[i]? = some e → bs[i]? = some b → e = f (g b)) : acc = (bs.map g).map f := by
  refine List.ext_getElem? fun i => ?_
  by_cases hi : i < acc.length
  · have e := List.getElem?_eq_getElem hi
    have e2 := List.getElem?_eq_getElem (show i < bs.length by omega)
    rw [e, h i _ _ e e2]
    simp [e2]
  · rw [List.getElem?_eq_none (by omega), List.getElem?_eq_none (by simp; omega)]
theorem bookFrom_app : ∀ {l l2 : List Thing} {n : Nat}, bookFrom n (l ++ l2) = bookFrom n l ++ bookFrom (n + l.length) l2
  | [], l2, n => rfl
  | t :: l, l2, n => by
    show pairsOf n t.fs ++ bookFrom (n + 1) (l ++ l2) = pairsOf n t.fs ++ bookFrom (n + 1) l ++ _
    rw [bookFrom_app (l := l), List.append_assoc]
    show _ = _ ++ (_ ++ bookFrom (n + (l.length + 1)) l2)
    rw [show n + 1 + l.length = n + (l.length + 1) by omega]
theorem bookOf_snoc {l : List Thing} {t : Thing} : bookOf (l ++ [t]) = bookOf l ++ pairsOf l.length t.fs := by
  unfold bookOf
  rw [bookFrom_app]
  show _ ++ (pairsOf ((0 + l.length : Nat) : Int) t.fs ++ []) = _
  rw [List.append_nil, Nat.zero_add]
theorem take_snoc {α : Type} {l : List α} {i : Nat} {a : α} (h : l[i]? = some a) : l.take (i + 1) = l.take i ++ [a] := by
  rw [List.take_succ, h]; rfl
theorem take_len {α : Type} {l : List α} {i : Nat} {a : α} (h : l[i]? = some a) : (l.take i).length = i := by
  have := (List.getElem?_eq_some_iff.mp h).1
  simp; omega
theorem bookOf_take {l : List Thing} {i : Nat} {t : Thing} (h : l[i]? = some t) : bookOf (l.take (i + 1)) = bookOf (l.take i) ++ pairsOf i t.fs := by
  rw [take_snoc h, bookOf_snoc, take_len h]
/-- the first k fields' pairs -/
def pairsTo (place : Int) (fs : List Val) (k : Nat) : List (Int × Int) := ((List.range k).filter fun k => (fs.getD k .non).yng).map fun (k : Nat) => (place, (k : Int))
theorem pairsTo_succ {place : Int} {fs : List Val} {k : Nat} {v : Val} (h : fs[k]? = some v) : pairsTo place fs (k + 1) = pairsTo place fs k ++ if v.yng then [(place, (k : Int))] else [] := by
  unfold pairsTo
  rw [List.range_succ, List.filter_append, List.map_append]
  congr 1
  cases hv : v.yng <;> simp [List.filter, h, hv]
theorem pairsOf_len {place : Int} {fs : List Val} : (pairsOf place fs).length ≤ fs.length := by
  unfold pairsOf
  rw [List.length_map]
  exact Nat.le_trans (List.length_filter_le _ _) (by simp)
theorem pairsTo_len {place : Int} {fs : List Val} {k : Nat} : (pairsTo place fs k).length ≤ k := by
  unfold pairsTo
  rw [List.length_map]
  exact Nat.le_trans (List.length_filter_le _ _) (by simp)
theorem bookFrom_len {m : Nat} : ∀ {l : List Thing} {n : Nat}, (∀ t ∈ l, t.fs.length ≤ m) → (bookFrom n l).length ≤ m * l.length
  | [], _, _ => by simp [bookFrom]
  | t :: l, n, h => by
    have h1 := bookFrom_len (l := l) (n := n + 1) fun t ht => h t (List.mem_cons_of_mem _ ht)
    have h2 := h t List.mem_cons_self
    have h3 := pairsOf_len (place := (n : Int)) (fs := t.fs)
    show (pairsOf n t.fs ++ bookFrom (n + 1) l).length ≤ m * (l.length + 1)
    rw [List.length_append, Nat.mul_succ]
    omega
theorem get_of_lt {α : Type} {l : List α} {i : Nat} (h : (i : Int) < (l.length : Int)) : ∃ a, l[i]? = some a := ⟨_, List.getElem?_eq_getElem (by omega)⟩
theorem map_get {α β : Type} {f : α → β} {l : List α} {i : Nat} {b : β} (h : (l.map f)[i]? = some b) : ∃ a, l[i]? = some a ∧ b = f a := by
  rw [List.getElem?_map] at h
  cases e : l[i]? with
  | none => rw [e] at h; cases h
  | some a => rw [e] at h; cases h; exact ⟨a, rfl, rfl⟩
end Mv

namespace Mv
open PySem PySem.Spec PyProof.Rows L2
def top (i : Nat) : Stmt := PySem.Challenge.pw_movecollect_k13_whole_plays.main.body.getD i (.Pass ⟨0, 0, 0, 0⟩)
def d_is_pointer : He.DefD := ⟨("is_pointer", none), "is_pointer", "is_pointer", defArgs (top 6), defBody (top 6), defScope (top 6), [], []⟩
def d_leads_young : He.DefD := ⟨("leads_young", none), "leads_young", "leads_young", defArgs (top 7), defBody (top 7), defScope (top 7), [], []⟩
def d_moved : He.DefD := ⟨("moved", none), "moved", "moved", defArgs (top 8), defBody (top 8), defScope (top 8), [], []⟩
def d_moved_row : He.DefD := ⟨("moved_row", none), "moved_row", "moved_row", defArgs (top 9), defBody (top 9), defScope (top 9), [], []⟩
def d_changed : He.DefD := ⟨("changed", none), "changed", "changed", defArgs (top 10), defBody (top 10), defScope (top 10), [], []⟩
def d_pairs_of : He.DefD := ⟨("pairs_of", none), "pairs_of", "pairs_of", defArgs (top 12), defBody (top 12), defScope (top 12), [], []⟩
def d_book_of : He.DefD := ⟨("book_of", none), "book_of", "book_of", defArgs (top 13), defBody (top 13), defScope (top 13), [], []⟩
def d_booked : He.DefD := ⟨("booked", none), "booked", "booked", defArgs (top 14), defBody (top 14), defScope (top 14), [], []⟩
def d_started : He.DefD := ⟨("started", none), "started", "started", defArgs (top 16), defBody (top 16), defScope (top 16), [], []⟩
def d_half_of : He.DefD := ⟨("half_of", none), "half_of", "half_of", defArgs (top 17), defBody (top 17), defScope (top 17), [], []⟩
def d_leads : He.DefD := ⟨("leads", none), "leads", "leads", defArgs (top 18), defBody (top 18), defScope (top 18), [], []⟩
def d_all_lead : He.DefD := ⟨("all_lead", none), "all_lead", "all_lead", defArgs (top 19), defBody (top 19), defScope (top 19), [], []⟩
def d_thing_at : He.DefD := ⟨("thing_at", none), "thing_at", "thing_at", defArgs (top 20), defBody (top 20), defScope (top 20), [], []⟩
def d_sure_field : He.DefD := ⟨("sure_field", none), "sure_field", "sure_field", defArgs (top 21), defBody (top 21), defScope (top 21), [], []⟩
def d_sure_values : He.DefD := ⟨("sure_values", none), "sure_values", "sure_values", defArgs (top 22), defBody (top 22), defScope (top 22), [], []⟩
def d_field : He.DefD := ⟨("field", none), "field", "field", defArgs (top 23), defBody (top 23), defScope (top 23), [], []⟩
def d_made : He.DefD := ⟨("made", none), "made", "made", defArgs (top 24), defBody (top 24), defScope (top 24), [], []⟩
def d_hold : He.DefD := ⟨("hold", none), "hold", "hold", defArgs (top 25), defBody (top 25), defScope (top 25), [], []⟩
def d_put : He.DefD := ⟨("put", none), "put", "put", defArgs (top 26), defBody (top 26), defScope (top 26), [], []⟩
def d_meet_all : He.DefD := ⟨("meet_all", none), "meet_all", "meet_all", defArgs (top 28), defBody (top 28), defScope (top 28), [], []⟩
def d_come_in_turn : He.DefD := ⟨("come_in_turn", none), "come_in_turn", "come_in_turn", defArgs (top 29), defBody (top 29), defScope (top 29), [], []⟩
def d_come_both : He.DefD := ⟨("come_both", none), "come_both", "come_both", defArgs (top 30), defBody (top 30), defScope (top 30), [], []⟩
def d_half_behind : He.DefD := ⟨("half_behind", none), "half_behind", "half_behind", defArgs (top 31), defBody (top 31), defScope (top 31), [], []⟩
def d_major : He.DefD := ⟨("major", none), "major", "major", defArgs (top 32), defBody (top 32), defScope (top 32), [], []⟩
def d_meet : He.DefD := ⟨("meet", none), "meet", "meet", defArgs (top 34), defBody (top 34), defScope (top 34), [], []⟩
def d_come_young : He.DefD := ⟨("come_young", none), "come_young", "come_young", defArgs (top 35), defBody (top 35), defScope (top 35), [], []⟩
def d_new_places : He.DefD := ⟨("new_places", none), "new_places", "new_places", defArgs (top 36), defBody (top 36), defScope (top 36), [], []⟩
def d_old_behind : He.DefD := ⟨("old_behind", none), "old_behind", "old_behind", defArgs (top 37), defBody (top 37), defScope (top 37), [], []⟩
def d_minor : He.DefD := ⟨("minor", none), "minor", "minor", defArgs (top 38), defBody (top 38), defScope (top 38), [], []⟩
def d_root_of : He.DefD := ⟨("root_of", none), "root_of", "root_of", defArgs (top 40), defBody (top 40), defScope (top 40), [], []⟩
def d_part_of : He.DefD := ⟨("part_of", none), "part_of", "part_of", defArgs (top 41), defBody (top 41), defScope (top 41), [], []⟩
def d_made_at : He.DefD := ⟨("made_at", none), "made_at", "made_at", defArgs (top 42), defBody (top 42), defScope (top 42), [], []⟩
def d_changed_by : He.DefD := ⟨("changed_by", none), "changed_by", "changed_by", defArgs (top 43), defBody (top 43), defScope (top 43), [], []⟩
def d_asked : He.DefD := ⟨("asked", none), "asked", "asked", defArgs (top 44), defBody (top 44), defScope (top 44), [], []⟩
def d_play : He.DefD := ⟨("play", none), "play", "play", defArgs (top 45), defBody (top 45), defScope (top 45), [], []⟩
def d__law_cell_at : He.DefD := ⟨("_law_cell_at", none), "_law_cell_at", "_law_cell_at", defArgs (top 47), defBody (top 47), defScope (top 47), [], []⟩
def d__law_whole : He.DefD := ⟨("_law_whole", none), "_law_whole", "_law_whole", defArgs (top 48), defBody (top 48), defScope (top 48), [], []⟩
def d__law_alike : He.DefD := ⟨("_law_alike", none), "_law_alike", "_law_alike", defArgs (top 49), defBody (top 49), defScope (top 49), [], []⟩
def d__law_book_alike : He.DefD := ⟨("_law_book_alike", none), "_law_book_alike", "_law_book_alike", defArgs (top 50), defBody (top 50), defScope (top 50), [], []⟩
def d__law_book_of : He.DefD := ⟨("_law_book_of", none), "_law_book_of", "_law_book_of", defArgs (top 51), defBody (top 51), defScope (top 51), [], []⟩
def d__law_leads : He.DefD := ⟨("_law_leads", none), "_law_leads", "_law_leads", defArgs (top 52), defBody (top 52), defScope (top 52), [], []⟩
def d__law_fields : He.DefD := ⟨("_law_fields", none), "_law_fields", "_law_fields", defArgs (top 53), defBody (top 53), defScope (top 53), [], []⟩
def d__law_right : He.DefD := ⟨("_law_right", none), "_law_right", "_law_right", defArgs (top 54), defBody (top 54), defScope (top 54), [], []⟩
def d__law_matched : He.DefD := ⟨("_law_matched", none), "_law_matched", "_law_matched", defArgs (top 55), defBody (top 55), defScope (top 55), [], []⟩
def d__law_walked : He.DefD := ⟨("_law_walked", none), "_law_walked", "_law_walked", defArgs (top 56), defBody (top 56), defScope (top 56), [], []⟩
def d__law_like_plain : He.DefD := ⟨("_law_like_plain", none), "_law_like_plain", "_law_like_plain", defArgs (top 57), defBody (top 57), defScope (top 57), [], []⟩
def d__law_number_by : He.DefD := ⟨("_law_number_by", none), "_law_number_by", "_law_number_by", defArgs (top 58), defBody (top 58), defScope (top 58), [], []⟩
def d__law_part_by : He.DefD := ⟨("_law_part_by", none), "_law_part_by", "_law_part_by", defArgs (top 59), defBody (top 59), defScope (top 59), [], []⟩
def d__law_root_by : He.DefD := ⟨("_law_root_by", none), "_law_root_by", "_law_root_by", defArgs (top 60), defBody (top 60), defScope (top 60), [], []⟩
def d__law_make_parts : He.DefD := ⟨("_law_make_parts", none), "_law_make_parts", "_law_make_parts", defArgs (top 61), defBody (top 61), defScope (top 61), [], []⟩
def d__law_deed_by : He.DefD := ⟨("_law_deed_by", none), "_law_deed_by", "_law_deed_by", defArgs (top 62), defBody (top 62), defScope (top 62), [], []⟩
def d__law_roots_in : He.DefD := ⟨("_law_roots_in", none), "_law_roots_in", "_law_roots_in", defArgs (top 63), defBody (top 63), defScope (top 63), [], []⟩
def d__law_meant : He.DefD := ⟨("_law_meant", none), "_law_meant", "_law_meant", defArgs (top 64), defBody (top 64), defScope (top 64), [], []⟩
def d__law_asked : He.DefD := ⟨("_law_asked", none), "_law_asked", "_law_asked", defArgs (top 65), defBody (top 65), defScope (top 65), [], []⟩
def d__law_answer : He.DefD := ⟨("_law_answer", none), "_law_answer", "_law_answer", defArgs (top 66), defBody (top 66), defScope (top 66), [], []⟩
def d__law_told : He.DefD := ⟨("_law_told", none), "_law_told", "_law_told", defArgs (top 67), defBody (top 67), defScope (top 67), [], []⟩
def d__law_room_by : He.DefD := ⟨("_law_room_by", none), "_law_room_by", "_law_room_by", defArgs (top 68), defBody (top 68), defScope (top 68), [], []⟩
def d_law : He.DefD := ⟨("law", none), "law", "law", defArgs (top 69), defBody (top 69), defScope (top 69), [], []⟩
def fn : List He.DefD := [d_is_pointer, d_leads_young, d_moved, d_moved_row, d_changed, d_pairs_of, d_book_of, d_booked, d_started, d_half_of, d_leads, d_all_lead, d_thing_at, d_sure_field, d_sure_values, d_field, d_made, d_hold, d_put, d_meet_all, d_come_in_turn, d_come_both, d_half_behind, d_major, d_meet, d_come_young, d_new_places, d_old_behind, d_minor, d_root_of, d_part_of, d_made_at, d_changed_by, d_asked, d_play, d__law_cell_at, d__law_whole, d__law_alike, d__law_book_alike, d__law_book_of, d__law_leads, d__law_fields, d__law_right, d__law_matched, d__law_walked, d__law_like_plain, d__law_number_by, d__law_part_by, d__law_root_by, d__law_make_parts, d__law_deed_by, d__law_roots_in, d__law_meant, d__law_asked, d__law_answer, d__law_told, d__law_room_by, d_law]
def fa : List He.Fa := [.glo "is_pointer", .glo "leads_young", .glo "moved", .glo "moved_row", .glo "changed", .glo "pairs_of", .glo "book_of", .glo "booked", .glo "started", .glo "half_of", .glo "leads", .glo "all_lead", .glo "thing_at", .glo "sure_field", .glo "sure_values", .glo "field", .glo "made", .glo "hold", .glo "put", .glo "meet_all", .glo "come_in_turn", .glo "come_both", .glo "half_behind", .glo "major", .glo "meet", .glo "come_young", .glo "new_places", .glo "old_behind", .glo "minor", .glo "root_of", .glo "part_of", .glo "made_at", .glo "changed_by", .glo "asked", .glo "play", .glo "_law_cell_at", .glo "_law_whole", .glo "_law_alike", .glo "_law_book_alike", .glo "_law_book_of", .glo "_law_leads", .glo "_law_fields", .glo "_law_right", .glo "_law_matched", .glo "_law_walked", .glo "_law_like_plain", .glo "_law_number_by", .glo "_law_part_by", .glo "_law_root_by", .glo "_law_make_parts", .glo "_law_deed_by", .glo "_law_roots_in", .glo "_law_meant", .glo "_law_asked", .glo "_law_answer", .glo "_law_told", .glo "_law_room_by", .glo "law", .glo "HeapError", .glo "NoThing", .glo "NoField", .glo "NoRoot", .free "len", .free "isinstance", .free "max", .free "abs", .free "sorted", .free "tuple", .free "list", .free "int", .free "bool", .free "str", .free "set", .free "range", .free "ValueError", .keep "HeapError", .keep "NoThing", .keep "NoField", .keep "NoRoot"]
abbrev hR : PySem.W.OpenRow := PySem.W.OpenLaw.row PySem.Challenge.rw_movecollect_k13_whole_plays
abbrev hk : PySem.W.Hook := He.hookX 4 fa fn [] [] xtB3
def ob (s : PySem.W.SharedT) : He.AlX := He.obsX 4 fa fn [] [] xtB3 (HandSHeadRun.getT s)
theorem ob_eq (s : PySem.W.SharedT) : ob s = hk.obs s.abs := He.obsX_eq (HandSHeadRun.getT_eq s)
def loose0 : List PySem.Str := ["HeapError", "NoThing", "NoField", "NoRoot", "is_pointer", "leads_young", "moved", "moved_row", "changed", "pairs_of", "book_of", "booked", "started", "half_of", "leads", "all_lead", "thing_at", "sure_field", "sure_values", "field"]
def loose1 : List PySem.Str := ["made", "hold", "put", "meet_all", "come_in_turn", "come_both", "half_behind", "major", "meet", "come_young", "new_places", "old_behind", "minor", "root_of", "part_of", "made_at", "changed_by", "asked", "play", "_law_cell_at"]
def loose2 : List PySem.Str := ["_law_whole", "_law_alike", "_law_book_alike", "_law_book_of", "_law_leads", "_law_fields", "_law_right", "_law_matched", "_law_walked", "_law_like_plain", "_law_number_by", "_law_part_by", "_law_root_by", "_law_make_parts", "_law_deed_by", "_law_roots_in", "_law_meant", "_law_asked", "_law_answer", "_law_told"]
def loose3 : List PySem.Str := ["_law_room_by"]
def loose : List PySem.Str := loose0 ++ loose1 ++ loose2 ++ loose3
set_option maxHeartbeats 0 in
theorem run (w : World) : HandSHeadRun.RunEq hR (PySem.W.view hR.prog [69]) hk ob 6000 loose w := by
  intro os
  kernel_rfl
end Mv
/-! Ml1: books in plain Lean: what stands in one, that it rises. -/
namespace Mv
open PySem PySem.Spec PyProof.Rows L2
/-- the one ahead of the other -/
def plt (a b : Int × Int) : Prop := a.1 < b.1 ∨ (a.1 = b.1 ∧ a.2 < b.2)
abbrev Rising (l : List (Int × Int)) : Prop := l.Pairwise plt
theorem plt_irr {a : Int × Int} (h : plt a a) : False := by rcases h with h | h <;> omega
theorem plt_asym {a b : Int × Int} (h : plt a b) (h2 : plt b a) : False := by
  unfold plt at *
  omega
/-- two rising lists of the same pairs are one list -/
theorem rising_ext : ∀ {a b : List (Int × Int)}, Rising a → Rising b → (∀ q, q ∈ a ↔ q ∈ b) → a = b
  | [], [], _, _, _ => rfl
  | [], y :: b, _, _, h => absurd ((h y).mpr List.mem_cons_self) (by simp)
  | x :: a, [], _, _, h => absurd ((h x).mp List.mem_cons_self) (by simp)
  | x :: a, y :: b, ha, hb, h => by
    have ha' := List.pairwise_cons.mp ha
    have hb' := List.pairwise_cons.mp hb
    have e : x = y := by
      rcases List.mem_cons.mp ((h x).mp List.mem_cons_self) with e | hx
      · exact e
      · rcases List.mem_cons.mp ((h y).mpr List.mem_cons_self) with e | hy
        · exact e.symm
        · exact (plt_asym (ha'.1 y hy) (hb'.1 x hx)).elim
    subst e
    have : a = b := rising_ext ha'.2 hb'.2 fun q => by
      constructor
      · intro hq
        rcases List.mem_cons.mp ((h q).mp (List.mem_cons_of_mem _ hq)) with e | z
        · exact (plt_irr (e ▸ ha'.1 q hq)).elim
        · exact z
      · intro hq
        rcases List.mem_cons.mp ((h q).mpr (List.mem_cons_of_mem _ hq)) with e | z
        · exact (plt_irr (e ▸ hb'.1 q hq)).elim
        · exact z
    rw [this]
theorem rising_nodup {l : List (Int × Int)} (h : Rising l) : l.Nodup := List.Pairwise.imp (fun {a b} (hab : plt a b) (e : a = b) => plt_irr (e ▸ hab)) h
theorem rising_of {l : List (Int × Int)} (h : LexSorted l) (n : l.Nodup) : Rising l := by
  refine List.Pairwise.imp (fun {a b} hab => ?_) (List.pairwise_and_iff.mpr ⟨h, n⟩)
  obtain ⟨h1, h2⟩ := hab
  unfold plt
  by_cases e : a.1 = b.1
  · by_cases e2 : a.2 = b.2
    · exact (h2 (Prod.ext e e2)).elim
    · omega
  · omega
theorem mem_pairsOf {i : Int} {fs : List Val} {q : Int × Int} : q ∈ pairsOf i fs ↔ ∃ (k : Nat) (v : Val), q = (i, (k : Int)) ∧ fs[k]? = some v ∧ v.yng = true := by
  unfold pairsOf
  simp only [List.mem_map, List.mem_filter, List.mem_range]
  constructor
  · rintro ⟨k, ⟨h1, h2⟩, rfl⟩
    refine ⟨k, fs[k], rfl, List.getElem?_eq_getElem h1, ?_⟩
    rw [List.getD_eq_getElem?_getD, List.getElem?_eq_getElem h1] at h2
    exact h2
  · rintro ⟨k, v, rfl, h1, h2⟩
    refine ⟨k, ⟨(List.getElem?_eq_some_iff.mp h1).1, ?_⟩, rfl⟩
    rw [List.getD_eq_getElem?_getD, h1]
    exact h2
theorem rising_pairsOf {i : Int} {fs : List Val} : Rising (pairsOf i fs) := by
  unfold pairsOf Rising
  rw [List.pairwise_map]
  refine List.Pairwise.imp (fun {a b} hab => ?_) (List.Pairwise.filter _ List.pairwise_lt_range)
  exact .inr ⟨rfl, by show (a : Int) < (b : Int); omega⟩
theorem mem_bookFrom : ∀ {l : List Thing} {n : Nat} {q : Int × Int}, q ∈ bookFrom n l ↔ ∃ (i k : Nat) (t : Thing) (v : Val), q = (((n + i : Nat) : Int), (k : Int)) ∧ l[i]? = some t ∧ t.fs[k]? = some v ∧ v.yng = true
  | [], n, q => by
    constructor
    · intro h; cases h
    · rintro ⟨i, k, t, v, _, h, _⟩; simp at h
  | t :: l, n, q => by
    show q ∈ pairsOf n t.fs ++ bookFrom (n + 1) l ↔ _
    rw [List.mem_append, mem_pairsOf, mem_bookFrom (l := l)]
    constructor
    · rintro (⟨k, v, rfl, h1, h2⟩ | ⟨i, k, t', v, rfl, h1, h2, h3⟩)
      · exact ⟨0, k, t, v, rfl, rfl, h1, h2⟩
      · exact ⟨i + 1, k, t', v, by rw [show n + 1 + i = n + (i + 1) by omega], by simpa using h1, h2, h3⟩
    · rintro ⟨i, k, t', v, rfl, h1, h2, h3⟩
      cases i with
      | zero =>
        simp at h1
        subst h1
        exact .inl ⟨k, v, rfl, h2, h3⟩
      | succ i => exact .inr ⟨i, k, t', v, by rw [show n + 1 + i = n + (i + 1) by omega], by simpa using h1, h2, h3⟩
theorem mem_bookOf {l : List Thing} {q : Int × Int} : q ∈ bookOf l ↔ ∃ (i k : Nat) (t : Thing) (v : Val), q = ((i : Int), (k : Int)) ∧ l[i]? = some t ∧ t.fs[k]? = some v ∧ v.yng = true := by
  unfold bookOf
  rw [mem_bookFrom]
  simp
theorem rising_bookFrom : ∀ {l : List Thing} {n : Nat}, Rising (bookFrom n l)
  | [], _ => .nil
  | t :: l, n => by
    refine List.pairwise_append.mpr ⟨rising_pairsOf, rising_bookFrom, fun a ha b hb => ?_⟩
    obtain ⟨k, v, rfl, _⟩ := mem_pairsOf.mp ha
    obtain ⟨i, k2, t', v', rfl, _⟩ := mem_bookFrom.mp hb
    exact .inl (by show (n : Int) < ((n + 1 + i : Nat) : Int); omega)
theorem rising_bookOf {l : List Thing} : Rising (bookOf l) := rising_bookFrom
/-- the book when a field is put -/
theorem book_put {l : List Thing} {p k : Nat} {t : Thing} {v : Val} {b : List (Int × Int)} (ht : l[p]? = some t) (hk : k < t.fs.length) (hb : Rising b)
    (hm : ∀ q, q ∈ b ↔ (q ∈ bookOf l ∧ q ≠ ((p : Int), (k : Int))) ∨ (v.yng = true ∧ q = ((p : Int), (k : Int)))) : b = bookOf (l.set p ⟨t.age, t.fs.set k v⟩) := by
  refine rising_ext hb rising_bookOf fun q => ?_
  rw [hm, mem_bookOf, mem_bookOf]
  have hp : p < l.length := (List.getElem?_eq_some_iff.mp ht).1
  constructor
  · rintro (⟨⟨i, j, t', w, rfl, h1, h2, h3⟩, hne⟩ | ⟨hy, rfl⟩)
    · by_cases e : i = p
      · subst e
        rw [ht] at h1
        cases h1
        have : j ≠ k := fun z => hne (by rw [z])
        refine ⟨i, j, _, w, rfl, List.getElem?_set_self hp, ?_, h3⟩
        show (t.fs.set k v)[j]? = some w
        rw [List.getElem?_set_ne (fun z => this z.symm)]
        exact h2
      · exact ⟨i, j, t', w, rfl, by rw [List.getElem?_set_ne (fun z => e z.symm)]; exact h1, h2, h3⟩
    · exact ⟨p, k, _, v, rfl, List.getElem?_set_self hp, List.getElem?_set_self hk, hy⟩
  · rintro ⟨i, j, t', w, rfl, h1, h2, h3⟩
    by_cases e : i = p
    · subst e
      rw [List.getElem?_set_self hp] at h1
      cases h1
      have h2 : (t.fs.set k v)[j]? = some w := h2
      by_cases e2 : j = k
      · subst e2
        rw [List.getElem?_set_self hk] at h2
        cases h2
        exact .inr ⟨h3, rfl⟩
      · rw [List.getElem?_set_ne (fun z => e2 z.symm)] at h2
        exact .inl ⟨⟨i, j, t, w, rfl, ht, h2, h3⟩, fun z => e2 (by have := (Prod.mk.inj z).2; omega)⟩
    · rw [List.getElem?_set_ne (fun z => e z.symm)] at h1
      exact .inl ⟨⟨i, j, t', w, rfl, h1, h2, h3⟩, fun z => e (by have := (Prod.mk.inj z).1; omega)⟩
end Mv

/-! Ml2: going from values to what they lead to, in plain Lean. -/
namespace Mv
open PySem PySem.Spec PyProof.Rows L2
def keyV : Val → List Key
  | .ptr w p => [.inr (wordS w), .inl p]
  | _ => []
def plc : Val → Int
  | .ptr _ p => p
  | _ => 0
theorem wordS_inj {a b : Wd} (h : wordS a = wordS b) : a = b := by
  have : decide (wordS a = wordS b) = decide (a = b) := by cases a <;> cases b <;> decide
  rw [decide_eq_true h] at this
  exact of_decide_eq_true this.symm
theorem keyV_d {v : Val} (h : v.isP = true) : keyD (keyV v) = v.d := by
  cases v with
  | ptr w p => rfl
  | non => cases h
  | num i => cases h
theorem keyV_inj {a b : Val} (ha : a.isP = true) (hb : b.isP = true) (h : keyV a = keyV b) : a = b := by
  cases a with
  | ptr w p =>
    cases b with
    | ptr w2 p2 =>
      unfold keyV at h
      injection h with h1 h2
      injection h2 with h2 _
      rw [wordS_inj (Sum.inr.inj h1), Sum.inl.inj h2]
    | non => cases hb
    | num i => cases hb
  | non => cases ha
  | num i => cases ha
/-- a dict of the things met -/
def seenT (w : List Val) : List (List Key × D) := w.map fun v => (keyV v, .bl true)
def seenK (w : List Val) : List (Key × D) := w.map fun v => (.inl (plc v), .bl true)
theorem look_map {κ : Type} [DecidableEq κ] {kf : Val → κ} {u : D} {v : Val} : ∀ {w : List Val}, (∀ x ∈ w, kf x = kf v → x = v) → lookD (w.map fun x => (kf x, u)) (kf v) = if v ∈ w then some u else none
  | [], _ => rfl
  | x :: w, h => by
    have ih := look_map (u := u) (v := v) (w := w) fun y hy => h y (List.mem_cons_of_mem _ hy)
    by_cases e : kf x = kf v
    · have e2 := h x List.mem_cons_self e
      subst e2
      simp [lookD]
    · have ne : v ≠ x := fun z => e (by rw [z])
      have e1 : lookD ((x :: w).map fun x => (kf x, u)) (kf v) = lookD (w.map fun x => (kf x, u)) (kf v) := by simp [lookD, e]
      rw [e1, ih]
      by_cases hm : v ∈ w
      · simp [hm]
      · simp [hm, ne]
theorem put_map {κ : Type} [DecidableEq κ] {kf : Val → κ} {u : D} {v : Val} {w : List Val} (h : ∀ x ∈ w, kf x = kf v → x = v) (hv : v ∉ w) : putD (w.map fun x => (kf x, u)) (kf v) u = (w ++ [v]).map fun x => (kf x, u) := by
  unfold putD
  have : ((w.map fun x => (kf x, u)).any fun kv => decide (kv.1 = kf v)) = false := by
    rw [List.any_eq_false]
    intro kv hkv
    obtain ⟨x, hx, rfl⟩ := List.mem_map.mp hkv
    intro e
    have e2 := h x hx (of_decide_eq_true e)
    exact hv (e2 ▸ hx)
  rw [this, if_neg (by simp), List.map_append]
  rfl
abbrev AllP (w : List Val) : Prop := ∀ v ∈ w, v.isP = true
abbrev AllY (w : List Val) : Prop := ∀ v ∈ w, v.yng = true
theorem yng_is {v : Val} (h : v.yng = true) : v = .ptr .y (plc v) := by
  cases v with
  | ptr w p => cases w <;> first | rfl | cases h
  | non => cases h
  | num i => cases h
theorem look_seenT {w : List Val} {v : Val} (hw : AllP w) (hv : v.isP = true) : lookD (seenT w) (keyV v) = if v ∈ w then some (.bl true) else none := look_map (kf := keyV) fun x hx e => keyV_inj (hw x hx) hv e
theorem put_seenT {w : List Val} {v : Val} (hw : AllP w) (hv : v.isP = true) (hn : v ∉ w) : putD (seenT w) (keyV v) (.bl true) = seenT (w ++ [v]) := put_map (kf := keyV) (fun x hx e => keyV_inj (hw x hx) hv e) hn
theorem plc_inj {a b : Val} (ha : a.yng = true) (hb : b.yng = true) (h : (Sum.inl (plc a) : Key) = .inl (plc b)) : a = b := by
  rw [yng_is ha, yng_is hb, Sum.inl.inj h]
theorem look_seenK {w : List Val} {v : Val} (hw : AllY w) (hv : v.yng = true) : lookD (seenK w) (.inl (plc v)) = if v ∈ w then some (.bl true) else none := look_map (kf := fun x => (Sum.inl (plc x) : Key)) fun x hx e => plc_inj (hw x hx) hv e
theorem put_seenK {w : List Val} {v : Val} (hw : AllY w) (hv : v.yng = true) (hn : v ∉ w) : putD (seenK w) (.inl (plc v)) (.bl true) = seenK (w ++ [v]) := put_map (kf := fun x => (Sum.inl (plc x) : Key)) (fun x hx e => plc_inj (hw x hx) hv e) hn
/-! ### meeting -/
section
variable {p : Val → Bool} {f : Val → List Val}
def meet1 (p : Val → Bool) (w : List Val) (v : Val) : List Val := if p v = true ∧ v ∉ w then w ++ [v] else w
def meet (p : Val → Bool) (w : List Val) (vs : List Val) : List Val := vs.foldl (meet1 p) w
theorem meet_app {w a b : List Val} : meet p w (a ++ b) = meet p (meet p w a) b := List.foldl_append
theorem meet_snoc {w a : List Val} {v : Val} : meet p w (a ++ [v]) = meet1 p (meet p w a) v := by rw [meet_app]; rfl
theorem meet1_pre {w : List Val} {v : Val} : ∃ t, meet1 p w v = w ++ t := by
  unfold meet1
  split
  · exact ⟨_, rfl⟩
  · exact ⟨[], by simp⟩
theorem meet_pre : ∀ {vs w : List Val}, ∃ t, meet p w vs = w ++ t
  | [], w => ⟨[], by simp [meet]⟩
  | v :: vs, w => by
    obtain ⟨t1, e1⟩ := meet1_pre (p := p) (w := w) (v := v)
    obtain ⟨t2, e2⟩ := meet_pre (vs := vs) (w := meet1 p w v)
    refine ⟨t1 ++ t2, ?_⟩
    show meet p (meet1 p w v) vs = _
    rw [e2, e1, List.append_assoc]
theorem mem_meet1 {w : List Val} {v x : Val} : x ∈ meet1 p w v ↔ x ∈ w ∨ (x = v ∧ p x = true) := by
  unfold meet1
  split
  · rename_i h
    rw [List.mem_append, List.mem_singleton]
    constructor
    · rintro (h1 | rfl)
      · exact .inl h1
      · exact .inr ⟨rfl, h.1⟩
    · rintro (h1 | ⟨h1, _⟩)
      · exact .inl h1
      · exact .inr h1
  · rename_i h
    constructor
    · exact .inl
    · rintro (h1 | ⟨rfl, h2⟩)
      · exact h1
      · exact Classical.byContradiction fun z => h ⟨h2, z⟩
theorem mem_meet {x : Val} : ∀ {vs w : List Val}, x ∈ meet p w vs ↔ x ∈ w ∨ (x ∈ vs ∧ p x = true)
  | [], w => by simp [meet]
  | v :: vs, w => by
    show x ∈ meet p (meet1 p w v) vs ↔ _
    rw [mem_meet (vs := vs), mem_meet1, List.mem_cons]
    constructor
    · rintro ((h | ⟨rfl, h⟩) | ⟨h1, h2⟩)
      · exact .inl h
      · exact .inr ⟨.inl rfl, h⟩
      · exact .inr ⟨.inr h1, h2⟩
    · rintro (h | ⟨rfl | h1, h2⟩)
      · exact .inl (.inl h)
      · exact .inl (.inr ⟨rfl, h2⟩)
      · exact .inr ⟨h1, h2⟩
theorem nodup_meet1 {w : List Val} {v : Val} (h : w.Nodup) : (meet1 p w v).Nodup := by
  unfold meet1
  split
  · rename_i hh
    refine List.nodup_append.mpr ⟨h, by simp, fun a ha b hb e => ?_⟩
    cases List.mem_singleton.mp hb
    exact hh.2 (e ▸ ha)
  · exact h
theorem nodup_meet : ∀ {vs w : List Val}, w.Nodup → (meet p w vs).Nodup
  | [], _, h => h
  | v :: vs, w, h => nodup_meet (vs := vs) (nodup_meet1 h)
/-- after k turns -/
def bfs (p : Val → Bool) (f : Val → List Val) (w : List Val) : Nat → List Val
  | 0 => w
  | k + 1 => match (bfs p f w k)[k]? with
    | some x => meet p (bfs p f w k) (f x)
    | none => bfs p f w k
theorem bfs_some {w : List Val} {k : Nat} {x : Val} (h : (bfs p f w k)[k]? = some x) : bfs p f w (k + 1) = meet p (bfs p f w k) (f x) := by
  show (match (bfs p f w k)[k]? with | some x => _ | none => _) = _
  rw [h]
theorem bfs_none {w : List Val} {k : Nat} (h : (bfs p f w k)[k]? = none) : bfs p f w (k + 1) = bfs p f w k := by
  show (match (bfs p f w k)[k]? with | some x => _ | none => _) = _
  rw [h]
theorem bfs_step {w : List Val} {k : Nat} : ∃ t, bfs p f w (k + 1) = bfs p f w k ++ t := by
  cases h : (bfs p f w k)[k]? with
  | some x => rw [bfs_some h]; exact meet_pre
  | none => rw [bfs_none h]; exact ⟨[], by simp⟩
theorem bfs_pre {w : List Val} {k : Nat} : ∀ {j : Nat}, ∃ t, bfs p f w (k + j) = bfs p f w k ++ t
  | 0 => ⟨[], by simp⟩
  | j + 1 => by
    obtain ⟨t, e⟩ := bfs_pre (j := j) (k := k) (w := w)
    obtain ⟨t2, e2⟩ := bfs_step (p := p) (f := f) (w := w) (k := k + j)
    exact ⟨t ++ t2, by rw [← Nat.add_assoc, e2, e, List.append_assoc]⟩
theorem bfs_stop {w : List Val} {k : Nat} (h : (bfs p f w k).length ≤ k) : ∀ {j : Nat}, bfs p f w (k + j) = bfs p f w k
  | 0 => rfl
  | j + 1 => by
    have ih := bfs_stop h (j := j)
    rw [← Nat.add_assoc, bfs_none, ih]
    rw [ih]
    exact List.getElem?_eq_none (by omega)
/-- w is all that is met -/
def Done (p : Val → Bool) (f : Val → List Val) (w0 w : List Val) : Prop := ∃ k, w = bfs p f w0 k ∧ w.length = k
theorem Done.uniq {w0 a b : List Val} (ha : Done p f w0 a) (hb : Done p f w0 b) : a = b := by
  obtain ⟨i, rfl, hi⟩ := ha
  obtain ⟨j, rfl, hj⟩ := hb
  rcases Nat.le_total i j with h | h
  · obtain ⟨d, rfl⟩ := Nat.exists_eq_add_of_le h
    rw [bfs_stop (by omega)]
  · obtain ⟨d, rfl⟩ := Nat.exists_eq_add_of_le h
    rw [bfs_stop (k := j) (by omega)]
theorem bfs_all {w : List Val} {Q : Val → Prop} (h0 : ∀ v ∈ w, Q v) (hs : ∀ x, Q x → ∀ y ∈ f x, p y = true → Q y) : ∀ {k : Nat}, ∀ v ∈ bfs p f w k, Q v
  | 0 => h0
  | k + 1 => by
    have ih := bfs_all h0 hs (k := k)
    cases h : (bfs p f w k)[k]? with
    | none => rw [bfs_none h]; exact ih
    | some x =>
      rw [bfs_some h]
      intro v hv
      rcases mem_meet.mp hv with z | ⟨z1, z2⟩
      · exact ih v z
      · exact hs x (ih x (List.mem_of_getElem? h)) v z1 z2
theorem bfs_nodup {w : List Val} (h0 : w.Nodup) : ∀ {k : Nat}, (bfs p f w k).Nodup
  | 0 => h0
  | k + 1 => by
    have ih := bfs_nodup h0 (k := k)
    cases h : (bfs p f w k)[k]? with
    | none => rw [bfs_none h]; exact ih
    | some x => rw [bfs_some h]; exact nodup_meet ih
theorem Done.start {w0 w : List Val} (h : Done p f w0 w) {x : Val} (hx : x ∈ w0) : x ∈ w := by
  obtain ⟨k, rfl, _⟩ := h
  obtain ⟨t, e⟩ := bfs_pre (p := p) (f := f) (w := w0) (k := 0) (j := k)
  rw [Nat.zero_add] at e
  rw [e]
  exact List.mem_append_left _ hx
theorem Done.closed {w0 w : List Val} (h : Done p f w0 w) {x y : Val} (hx : x ∈ w) (hy : y ∈ f x) (py : p y = true) : y ∈ w := by
  obtain ⟨k, rfl, hk⟩ := h
  obtain ⟨i, hi⟩ := List.getElem?_of_mem hx
  have hik : i < k := by have := (List.getElem?_eq_some_iff.mp hi).1; omega
  have hlt : i < (bfs p f w0 i).length := by
    refine Classical.byContradiction fun z => ?_
    have := bfs_stop (p := p) (f := f) (w := w0) (k := i) (by omega) (j := k - i)
    rw [show i + (k - i) = k by omega] at this
    rw [this] at hk
    omega
  have e1 : (bfs p f w0 i)[i]? = some x := by
    obtain ⟨t, e⟩ := bfs_pre (p := p) (f := f) (w := w0) (k := i) (j := k - i)
    rw [show i + (k - i) = k by omega] at e
    rw [e, List.getElem?_append_left hlt] at hi
    exact hi
  obtain ⟨t, e⟩ := bfs_pre (p := p) (f := f) (w := w0) (k := i + 1) (j := k - (i + 1))
  rw [show i + 1 + (k - (i + 1)) = k by omega] at e
  rw [e]
  refine List.mem_append_left _ ?_
  rw [bfs_some e1]
  exact mem_meet.mpr (.inr ⟨hy, py⟩)
theorem Done.nodup {w0 w : List Val} (h : Done p f w0 w) (h0 : w0.Nodup) : w.Nodup := by
  obtain ⟨k, rfl, _⟩ := h
  exact bfs_nodup h0
theorem Done.all {w0 w : List Val} {Q : Val → Prop} (h : Done p f w0 w) (h0 : ∀ v ∈ w0, Q v) (hs : ∀ x, Q x → ∀ y ∈ f x, p y = true → Q y) : ∀ v ∈ w, Q v := by
  obtain ⟨k, rfl, _⟩ := h
  exact bfs_all h0 hs
end
/-! ### counting -/
theorem nodup_le {α : Type} [DecidableEq α] : ∀ {a b : List α}, a.Nodup → (∀ x ∈ a, x ∈ b) → a.length ≤ b.length
  | [], _, _, _ => Nat.zero_le _
  | x :: a, b, hn, h => by
    have hn' := List.nodup_cons.mp hn
    have hx := h x List.mem_cons_self
    have := nodup_le (a := a) (b := b.erase x) hn'.2 fun y hy => by
      have ne : y ≠ x := fun e => hn'.1 (e ▸ hy)
      exact (List.mem_erase_of_ne ne).mpr (h y (List.mem_cons_of_mem _ hy))
    rw [List.length_erase_of_mem hx] at this
    have hb : 0 < b.length := List.length_pos_of_mem hx
    simp only [List.length_cons]
    omega
/-- the pointer leads to a thing of halves of these sizes -/
def okP (ny no : Nat) (v : Val) : Prop := (∃ p : Nat, p < ny ∧ v = .ptr .y (p : Int)) ∨ ∃ p : Nat, p < no ∧ v = .ptr .o (p : Int)
theorem count_le {ny no : Nat} {w : List Val} (hn : w.Nodup) (h : ∀ v ∈ w, okP ny no v) : w.length ≤ ny + no := by
  have := nodup_le (b := ((List.range ny).map fun p : Nat => Val.ptr .y (p : Int)) ++ ((List.range no).map fun p : Nat => Val.ptr .o (p : Int))) hn fun v hv => by
    rcases h v hv with ⟨p, hp, rfl⟩ | ⟨p, hp, rfl⟩
    · exact List.mem_append_left _ (List.mem_map.mpr ⟨p, List.mem_range.mpr hp, rfl⟩)
    · exact List.mem_append_right _ (List.mem_map.mpr ⟨p, List.mem_range.mpr hp, rfl⟩)
  simpa using this
/-! ### places, rising -/
theorem asc_ext : ∀ {a b : List Int}, a.Pairwise (· < ·) → b.Pairwise (· < ·) → (∀ q, q ∈ a ↔ q ∈ b) → a = b
  | [], [], _, _, _ => rfl
  | [], y :: b, _, _, h => absurd ((h y).mpr List.mem_cons_self) (by simp)
  | x :: a, [], _, _, h => absurd ((h x).mp List.mem_cons_self) (by simp)
  | x :: a, y :: b, ha, hb, h => by
    have ha' := List.pairwise_cons.mp ha
    have hb' := List.pairwise_cons.mp hb
    have e : x = y := by
      rcases List.mem_cons.mp ((h x).mp List.mem_cons_self) with e | hx
      · exact e
      · rcases List.mem_cons.mp ((h y).mpr List.mem_cons_self) with e | hy
        · exact e.symm
        · have := ha'.1 y hy
          have := hb'.1 x hx
          omega
    subst e
    have : a = b := asc_ext ha'.2 hb'.2 fun q => by
      constructor
      · intro hq
        rcases List.mem_cons.mp ((h q).mp (List.mem_cons_of_mem _ hq)) with e | z
        · have := ha'.1 q hq; omega
        · exact z
      · intro hq
        rcases List.mem_cons.mp ((h q).mpr (List.mem_cons_of_mem _ hq)) with e | z
        · have := hb'.1 q hq; omega
        · exact z
    rw [this]
theorem asc_of {l : List Int} (h : l.Pairwise (· ≤ ·)) (n : l.Nodup) : l.Pairwise (· < ·) := by
  refine List.Pairwise.imp (fun {a b} hab => ?_) (List.pairwise_and_iff.mpr ⟨h, n⟩)
  obtain ⟨h1, h2⟩ := hab
  omega
/-- the numbers below n that are chosen -/
def chosen (n : Nat) (c : Nat → Bool) : List Int := ((List.range n).filter c).map fun k : Nat => (k : Int)
theorem mem_chosen {n : Nat} {c : Nat → Bool} {i : Int} : i ∈ chosen n c ↔ ∃ k : Nat, k < n ∧ c k = true ∧ i = (k : Int) := by
  unfold chosen
  simp only [List.mem_map, List.mem_filter, List.mem_range]
  exact ⟨fun ⟨k, ⟨h1, h2⟩, h3⟩ => ⟨k, h1, h2, h3.symm⟩, fun ⟨k, h1, h2, h3⟩ => ⟨k, ⟨h1, h2⟩, h3.symm⟩⟩
theorem asc_chosen {n : Nat} {c : Nat → Bool} : (chosen n c).Pairwise (· < ·) := by
  unfold chosen
  rw [List.pairwise_map]
  refine List.Pairwise.imp (fun {a b} hab => ?_) (List.Pairwise.filter _ List.pairwise_lt_range)
  show (a : Int) < (b : Int)
  omega
theorem chosen_len {n : Nat} {c : Nat → Bool} : (chosen n c).length ≤ n := by
  unfold chosen
  rw [List.length_map]
  exact Nat.le_trans (List.length_filter_le _ _) (by simp)
abbrev met? (o : Wd) (w : List Val) : Nat → Bool := fun k => decide (Val.ptr o (k : Int) ∈ w)
/-- the places sorted are the numbers met -/
theorem places_eq {o : Wd} {n : Nat} {w : List Val} {ns : List Int} (hs : ns.Pairwise (· ≤ ·)) (hn : ns.Nodup) (hm : ∀ i, i ∈ ns ↔ ∃ k : Nat, k < n ∧ Val.ptr o (k : Int) ∈ w ∧ i = (k : Int)) : ns = chosen n (met? o w) :=
  asc_ext (asc_of hs hn) asc_chosen fun q => by
    rw [hm, mem_chosen]
    simp
end Mv

/-! Base9: sorted(set(l)), l a list of ints of any length. -/
namespace Mv
open PySem PySem.Spec PyProof.Rows L2
/-- the members counted are no more than a list that has them all -/
theorem setR_le {w : World} {h : Heap} {a : Addr} {S : Int → Bool} {c : Nat} {L : List Int} (R : SetR w h a S c) (all : ∀ k, S k = true → k ∈ L) : c ≤ L.length := by
  obtain ⟨o, es, ep, t, _, _, _, _, nd, mem, _, _, sz, _⟩ := R
  have z := nodup_le nd fun k hk => all k ((mem k).mpr hk)
  rw [List.length_map, Array.length_toList, sz] at z
  exact z
section
variable {P : Program} {w : World} {A : Around} {E : Value → Shared → Prop}
/-- the set's loop, however long the row is: what counts is how many it is of -/
theorem set_fill {it : Addr} {fp wr : List Addr} {G : Array GenState → Array GenState → Prop} {n : Nat} {Pv : Nat → Value → Prop} {St : Nat → Shared → Prop} {R : Result → Shared → Prop} {ks L : List Int} {a : Addr}
    (W : WalksS P w A.in1 it fp wr G n Pv St) (out : a ∉ fp) (sz : n = ks.length) (few : L.length + 1 < scanBound) (sub : ∀ k ∈ ks, k ∈ L) (is : ∀ j v, Pv j v → ∃ k t, ks[j]? = some k ∧ v = .int k t) :
    ∀ (m j : Nat) (s : Shared), n - j = m → j ≤ n → St j s → (∃ c, SetR w s.heap a (fun x => decide (x ∈ ks.take j)) c) →
      (∀ s2 c, Moved (a :: wr) G s s2 → SetR w s2.heap a (fun x => decide (x ∈ ks)) c → R (.ok (.ret .none)) s2) → codeAny (model P w) A (.builtin "set.update.loop" ⟨[.ref a, .ref it], []⟩) R s
  | 0, j, s, hm, hj, st, ⟨c, hs⟩, fin => by
    cases (show j = n by omega)
    refine codeAny_builtin F.entry_set_update_loop ?_
    rw [Around.under_plainId F.plain_set_update_loop _]
    show wpAny _ A.in1 (pyNext (.ref it) >>= _) _ _ s
    refine wpAny_bind (W.done s _ _ st fun s2 mv => ?_)
    show wpAny _ A.in1 (ret Value.none) _ _ s2
    rw [List.take_of_length_le (by omega)] at hs
    exact wpAny_pure (fin s2 c (mv.mono fun b hb => List.mem_cons_of_mem _ hb) (hs.at fun o e => mv.heap a o (fun z => out (W.sub _ z)) e))
  | m + 1, j, s, hm, hj, st, ⟨c, hs⟩, fin => by
    have lt : j < n := by omega
    refine codeAny_builtin F.entry_set_update_loop ?_
    rw [Around.under_plainId F.plain_set_update_loop _]
    show wpAny _ A.in1 (pyNext (.ref it) >>= _) _ _ s
    refine wpAny_bind (W.item j s _ _ lt st fun v s2 pv st2 mv => ?_)
    obtain ⟨k, t, hk, rfl⟩ := is j v pv
    have hs2 := hs.at (h' := s2.heap) fun o e => mv.heap a o (fun z => out (W.sub _ z)) e
    have cl : c ≤ L.length := setR_le hs2 fun x hx => sub x (List.mem_of_mem_take (of_decide_eq_true hx))
    show wpAny _ A.in1 (holding [Value.int k t] (setAdd a (.int k t)) >>= _) _ _ s2
    refine wpAny_bind (wpAny_holding ?_)
    unfold setAdd
    refine wpAny_holding (wpAny_bind ((intKind P w).pyHash (k := k) (intKind_is _ _ _ _) ?_))
    refine setR_add_hashed (s := { s2 with toks := s2.toks + 1 }) hs2 (by omega) fun g same hs3 => ?_
    have hs4 := hs3.congr (S' := fun x => decide (x ∈ ks.take (j + 1))) fun x => by
      rw [List.take_add_one, hk]
      simp [List.mem_append]
    refine wpAny_pure ⟨plainId_quiet F.plain_set_update_loop _, set_fill W out sz few sub is m (j + 1) _ (by omega) lt (W.frame _ s2 _ _ st2 (Nat.le_succ _) fun b hb o e => ?_) ⟨_, hs4⟩ fun s3 c3 mv3 hs5 => ?_⟩
    · rw [same.2 b fun z => out (z ▸ hb)]
      exact e
    · refine fin s3 c3 (Moved.trans W.gtrans ((mv.mono fun b hb => List.mem_cons_of_mem _ hb).then_heap (Nat.le_succ _) fun b o hb e => ?_) mv3) hs5
      rw [same.2 b fun z => hb (z ▸ List.mem_cons_self)]
      exact e
end
/-- a set that is just laid -/
abbrev set0 (w : World) : Obj := ⟨.type "set", none, .set #[] 0 (.fresh 0 0 (!w.params.followText "set-order")), #[]⟩
section
variable {P : Program} {w : World} {A : Around} {E : Value → Shared → Prop} {s : Shared}
abbrev withSet (w : World) (s : Shared) : Shared := { s with heap := s.heap.push (set0 w) }
theorem set_of_list {l : Addr} {xs : Array Value} (ks L : List Int) {Q : Value → Shared → Prop} (nh : A.handled = none) (il : s.heap.IsList l xs) (ia : IntsAre xs.toList ks) (few : L.length + 1 < scanBound) (sub : ∀ k ∈ ks, k ∈ L)
    (fin : ∀ (g : Heap) (u m : Nat), SetR w g s.heap.objs.size (fun j => decide (j ∈ ks)) m → (∀ b o, s.heap.get? b = some o → g.get? b = some o) → Q (.ref s.heap.objs.size) { s with heap := g, toks := u }) :
    wpAny (model P w) A (call (.type "set") [.ref l]) Q E s := by
  have sz : xs.size = ks.length := by rw [← Array.length_toList]; exact IntsAre.length ia
  obtain ⟨cc, tt, m0⟩ := F.called_set.mro
  have m1 := F.called_set.made
  have m2 := F.called_set.sub
  have m3 := F.called_set.notType
  have m4 := F.called_set.canCreate
  have m5 := F.typeCall_set_1 (.ref l)
  refine wpAny_call (codeAny_of_tree (?_ : wpAny _ _ (callAny (.type "set") _) _ _ _))
  refine wpAny_pure ⟨Code.quiet_builtin _ (by decide +kernel), codeAny_builtin F.entry_type_call (?_)⟩
  rw [Around.under_plain (weight_type_call_type "set" [Value.ref l] []) (by rfl)]
  repeat (any_goals (first | wp_step | assumption))
  refine codeAny_mono (code_set_led1 (.ref l) (E := E) (Q₁ := fun ob s1 => ob = .ref s.heap.objs.size ∧ s1 = withSet w s) ⟨rfl, rfl⟩) fun r s1 hr => ?_
  match r, hr with
  | .error e, hr => exact hr
  | .ok (.ret ob), ⟨e1, e2⟩ =>
    subst e1 e2
    have at0 : (s.heap.push (set0 w)).get? s.heap.objs.size = some (set0 w) := Heap.get?_push_size _ rfl
    have ty0 : Shared.TypeIs (withSet w s) (.ref s.heap.objs.size) "set" := ⟨_, at0, rfl⟩
    have i1 := F.called_set.init.lookup
    have i2 := F.called_set.init.bind (.ref s.heap.objs.size)
    repeat (any_goals (first | wp_step | assumption))
    refine codeAny_mono (codeAny_call_builtin (R := wants (fun v s2 => v = .none ∧ ∃ g u m, s2 = { s with heap := g, toks := u } ∧ SetR w g s.heap.objs.size (fun j => decide (j ∈ ks)) m ∧ ∀ b o, s.heap.get? b = some o → g.get? b = some o) E) F.called_set.init.plain F.entry_set_init (check_set_init_1 ty0 ?_)) fun r2 s2 hr2 => ?_
    · obtain ⟨⟨lc, ldd, ldt, lsl⟩, lo, lcl, ln, ldat⟩ := il
      simp only at lcl ldat
      subst lcl ldat
      have lo2 : (s.heap.push (set0 w)).get? l = some ⟨.type "list", ldd, .seq xs ln, lsl⟩ := Heap.get?_push_of_some _ lo
      have q1 := F.sub_list_set
      have q2 := F.sub_list_frozenset
      have q3 : (Value.type "list" == Value.type "dict") = false := by decide
      have il2 : (s.heap.push (set0 w)).IsList l xs := ⟨_, lo2, rfl, ln, rfl⟩
      have ls : l < s.heap.objs.size := Heap.lt_size lo
      unfold Builtin.«set.__init__»; unfold noKeywords Builtin.Frozenset.updateFrom
      generalize gp : pyIter = pi
      wp_walk
      subst gp
      refine wpAny_pyIter_list il2 (wpAny_bind (wpAny_runValue ?_))
      have nh3 : A.in1.in1.in1.handled = none := by simp [nh]
      have bump : (s.heap.push (set0 w)).objs.size = s.heap.objs.size + 1 := Heap.size_push ..
      have neI : l ≠ (s.heap.push (set0 w)).objs.size := fun z => Nat.ne_of_lt (Nat.lt_succ_of_lt ls) (z.trans bump)
      have notIn : s.heap.objs.size ∉ [(s.heap.push (set0 w)).objs.size, l] := by
        intro z
        rcases List.mem_cons.mp z with z | z
        · exact Nat.ne_of_lt (Nat.lt_succ_self _) (z.trans bump)
        · exact Nat.ne_of_gt ls (List.mem_singleton.mp z)
      have each : ∀ (i : Nat) (v : Value), xs[i]? = some v → ∃ k t, ks[i]? = some k ∧ v = .int k t := fun i v hv => by
        have hi : i < ks.length := by rw [← sz]; exact (Array.getElem?_eq_some_iff.mp hv).1
        obtain ⟨t, e⟩ := PyProof.Rows.IntsAre.int_at ia i v (by rw [Array.getElem?_toList]; exact hv)
        have eg := List.getElem?_eq_getElem hi
        refine ⟨ks[i], t, eg, ?_⟩
        rw [e, List.getD_eq_getElem?_getD, eg]
        rfl
      refine set_fill (Walks.list nh3 _ l neI xs).toS notIn sz few sub each (xs.size - 0) 0 _ (by omega) (Nat.zero_le _) ⟨⟨_, Heap.get?_push_size _ rfl, rfl, rfl⟩, il2.push _⟩ ?start ?done
      case start => exact ⟨0, setR_new_at (Heap.get?_push_of_some _ at0)⟩
      case done =>
        intro s' m mv R'
        obtain ⟨g, g2, d2, u, o2⟩ := s'
        have eg : g2 = s.gens := mv.gens
        have ed : d2 = s.drawn := mv.drawn
        have eo : o2 = s.os := mv.os
        subst eg ed eo
        refine wpAny_pure (?_ : wpAny _ _ (ret Value.none) _ _ _)
        refine wpAny_pure ⟨rfl, g, u, m, rfl, R', fun b o e => ?_⟩
        have b0 : b < s.heap.objs.size := Heap.lt_size e
        refine mv.heap b o ?_ (Heap.get?_push_of_some _ (Heap.get?_push_of_some _ e))
        intro z
        rcases List.mem_cons.mp z with z | z
        · exact Nat.ne_of_lt b0 z
        · exact Nat.ne_of_lt (Nat.lt_succ_of_lt b0) ((List.mem_singleton.mp z).trans bump)
    · match r2, hr2 with
      | .error e, hr2 => exact hr2
      | .ok (.ret v), ⟨e1, g, u, m, e2, R', keep⟩ =>
        subst e1 e2
        repeat (any_goals (first | wp_step | assumption))
        exact fin _ _ _ R' keep
      | .ok .next, hr2 => exact hr2.elim
      | .ok .brk, hr2 => exact hr2.elim
      | .ok .cont, hr2 => exact hr2.elim
  | .ok .next, hr => exact hr.elim
  | .ok .brk, hr => exact hr.elim
  | .ok .cont, hr => exact hr.elim
theorem sorted_of_set {a : Addr} {S : Int → Bool} {n : Nat} {Q : Value → Shared → Prop} (R : SetR w s.heap a S n) (nh : A.handled = none) (few : n ≤ sizeLine)
    (fin : ∀ (s' : Shared) (p : Addr) (out : List Value) (m : Nat), (∀ b o, s.heap.get? b = some o → s'.heap.get? b = some o) → s'.gens = s.gens → s'.os = s.os → s.heap.objs.size ≤ p → s'.heap.get? p = some (seqObj "list" out.toArray m) →
      IntsAre out (out.map SrtO.iv) → (out.map SrtO.iv).Pairwise (· < ·) → (∀ k, k ∈ out.map SrtO.iv ↔ S k = true) → Q (.ref p) s') :
    wpAny (model P w) A (call (.builtin "sorted") [.ref a]) Q E s := by
  obtain ⟨ob, es, ep, t, ho, hex, hd, g, nd, hm, hb, hf, hn, hr, hl⟩ := R
  refine Calls.call_function_entry kind_sorted plain_sorted entry_sorted (args_sorted1 _) (?_)
  unfold Builtin.«sorted»; refine wpAny_bind (m := checkCount "sorted" 1 1 _) (wpAny_pure ?_)
  refine wpAny_bind (collect_set (A := A.in1) nh ⟨ob, ho, hex.1, hd⟩ hf hb hr hl fun s1 vs k1 hz g1 o1 pm => ?_)
  have lv : vs.length = n := by rw [pm.length_eq, List.length_map, Array.length_toList, hn]
  have iv : IntsAre vs (vs.map Builtin.Re.reRawOf) := ints_of vs fun v hv => by
    obtain ⟨e, he, q⟩ := List.mem_map.mp (pm.mem_iff.mp hv)
    obtain ⟨k, tk, h1, _⟩ := g e he
    exact ⟨k, tk, q ▸ h1⟩
  have pk : (vs.map Builtin.Re.reRawOf).Perm (es.toList.map keyOf) := by
    have q := pm.map Builtin.Re.reRawOf
    rwa [List.map_map] at q
  have hz2 : vs.length ≤ sizeLine := by rw [lv]; exact few
  refine wpAny_bind (wpAny_newList ?_ hz2)
  have obL : (s1.heap.push (seqObj "list" vs.toArray 0)).get? s1.heap.objs.size = some (seqObj "list" vs.toArray 0) := Heap.get?_push_size _ rfl
  refine wpAny_bind (wpAny_holding (wpAny_call_entry slot_list_sort ⟨_, obL, rfl⟩ entry_list_sort (SrtO.list_sort_ord SrtO.swo_int obL hz2 (fun h2 => SrtO.ints_sortable iv h2) fun out a1 a2 => ⟨_, rfl, ?_⟩) (args_list_sort _)))
  obtain ⟨b1, b2, b3⟩ := SrtO.ints_out iv a1 a2
  obtain ⟨c, hc⟩ := sortedHeap_at (vs := vs) (out := out.toArray) obL
  have pn := b2.trans pk
  refine wpAny_pure ⟨_, rfl, fin _ s1.heap.objs.size out c (fun b u e => ?_) g1 o1 hz hc b1 (lt_of_le_nodup _ b3 (pn.nodup_iff.mpr nd)) fun k => by rw [pn.mem_iff, ← hm k]⟩
  have q := k1 b u e
  have hlt := Heap.lt_size q
  show (sortedHeap (s1.heap.push (seqObj "list" vs.toArray 0)) s1.heap.objs.size vs out.toArray).get? b = some u
  rw [sortedHeap_old (Nat.ne_of_lt hlt) (Nat.lt_of_lt_of_le hlt (by rw [size_push']; exact Nat.le_succ _))]
  exact Heap.get?_push_of_some _ q
end
/-! ### the reading of sorted(set(e)), its rule, the data's rule -/
def tSortSet (K : PySem.W.Frag) (ta : TA) : TE := fun σ H Q => ta σ H fun vs H1 => ∃ (p : Addr) (ks L : List Int), vs = [.ref p] ∧ SqL K H1 p (ks.map V.int) ∧ L.length ≤ 4000 ∧ (∀ k ∈ ks, k ∈ L) ∧
  ∀ (ns : List Int) (l : Addr), ns.Pairwise (· < ·) → (∀ k, k ∈ ns ↔ k ∈ ks) → H1 l = none → Q (.ref l) (upd H1 l (.lst (ns.map V.int)))
theorem pe_sortSet {X : Cx} {e : Expr} {ta : TA} {p1 p2 pos1 pos2 : Pos} (hc : X.calm = true) (hg1 : Gl X "sorted") (hm1 : X.mg "sorted" = none) (hg2 : Gl X "set") (hm2 : X.mg "set" = none) (ha : PA X [e] ta)
    (he : starEach [.Call (.Name "set" p2) [e] [] pos2] X.env = [(false, eval (.Call (.Name "set" p2) [e] [] pos2) X.env)] := by rfl) (hs : starEach [e] X.env = [(false, eval e X.env)] := by rfl) :
    PE X (.Call (.Name "sorted" p1) [.Call (.Name "set" p2) [e] [] pos2] [] pos1) (tSortSet X.K ta) := ⟨fun pins s σ H Q I h => by
  refine wpAny_Call_Name_kw (ld_blt I hg1 hm1 b_sorted (PyProof.Rows.callWith_builtin1 ?_ he rfl))
  rw [he]
  refine Calls.spliced_cons ?_
  refine wpAny_Call_Name_kw (ld_blt I hg2 hm2 b_set (PyProof.Rows.callWith_type1 (thn (ha.run pos2 pins s σ H _ I h) fun us s1 ⟨vs, H1, I1, r1, q1⟩ => ?_) hs rfl))
  obtain ⟨p, ks, L, e1, hq, hl, sub, q⟩ := q1
  subst e1
  obtain ⟨its, rv, pl, hz⟩ := I1.list hq
  rw [Vals.ref1 r1]
  have nh := I1.ok.hd hc
  refine set_of_list ks L nh pl.isList rv.ints (by unfold scanBound; omega) sub fun g u m R1 keep => ?_
  refine Calls.spliced_nil ?_
  have hm4 : m ≤ L.length := setR_le R1 fun k hk => sub k (of_decide_eq_true hk)
  refine sorted_of_set (s := { s1 with heap := g, toks := u }) R1 nh (sz_of (by omega)) fun s2 l out ep k2 g2 o2 hp hg io ro mo => ?_
  have kall : ∀ b o, s1.heap.get? b = some o → s2.heap.get? b = some o := fun b o e => k2 b o (keep b o e)
  have hp1 : s1.heap.objs.size ≤ l := Nat.le_of_lt (Nat.lt_of_lt_of_le (Heap.lt_size R1.choose_spec.choose_spec.choose_spec.choose_spec.1) hp)
  have hlen : ((out.map SrtO.iv).map V.int).length ≤ sizeLine := by
    have z := nodup_le (List.Pairwise.imp (fun {a b} (hab : a < b) (e : a = b) => by omega) ro) fun k hk => sub k (of_decide_eq_true ((mo k).mp hk))
    rw [List.length_map]
    exact sz_of (by omega)
  have new : ObjOk X.prog X.w (upd H1 l (.lst ((out.map SrtO.iv).map V.int))) s2.heap l (.lst ((out.map SrtO.iv).map V.int)) := ⟨hlen, out, ep, vals_of_ints io, hg⟩
  exact ⟨.ref l, upd H1 l (.lst ((out.map SrtO.iv).map V.int)), I1.call' (ch := []) o2 (Un.laid kall hp1 (I1.hok.fresh hp1)) (I1.hok.laid kall hp1 new) (by rw [g2]; exact I1.bare) (fun _ z => nomatch z), rfl,
    q _ l ro (fun k => by rw [mo k]; exact decide_eq_true_iff) (I1.hok.fresh hp1)⟩⟩
section
variable {A : Am} {G : Gm} {M : Bxs} {ta : TA} {R : D → Bxs → Prop}
theorem w_sortSet (h : Wa A ta G M fun ds M1 => ∃ (p : Addr) (b : Box) (ks L : List Int), ds = [.obj p] ∧ (p, b) ∈ M1 ∧ b.rb = .l (ks.map D.int) ∧ L.length ≤ 4000 ∧ (∀ k ∈ ks, k ∈ L) ∧
      ∀ (l : Addr) (ns : List Int), ns.Pairwise (· < ·) → (∀ k, k ∈ ns ↔ k ∈ ks) → R (.obj l) ((l, .lst (ns.map D.int)) :: M1)) : We A (tSortSet A.K ta) G M R := fun σ H S Q q =>
  h σ H S _ fun ds M1 vs H1 ⟨p, b, ks, L, e, hm, hb, hl, sub, k⟩ S1 t1 r1 => by
    subst e
    obtain ⟨v, rfl, hv⟩ := r1.one_inv
    cases hv.obj_inv
    obtain ⟨xs, e, r⟩ := (S1.box _ hm).seq hb
    cases r.ints
    refine ⟨p, ks, L, rfl, e, hl, sub, fun ns l h1 h2 hl => ?_⟩
    obtain ⟨S2, t2, r2⟩ := new_lst S1 hl (Rvs.of_ints (H := H1) (ns := ns))
    exact q _ _ _ _ (k l ns h1 h2) S2 (t1.trans t2) r2
end
end Mv

/-! Data2: list(range(n)). -/
namespace Mv
open PySem PySem.Spec PyProof.Rows L2
end Mv

/-! Data3: loops over what is known only when it is made. -/
namespace Mv
open PySem PySem.Spec PyProof.Rows L2
section
variable {A : Am} {G : Gm} {M : Bxs} {tl : TE} {j : Nat} {ts : TS} {nx : L2.St → Hp → Prop} {rt : VK} {bk ct : L2.St → Hp → Prop}
theorem ns_forTx (h : We A tl G M fun x M1 => ∃ (ds : List D) (I : Nat → Gm → Bxs → Prop), x = .tup ds ∧ I 0 G M1 ∧
      (∀ (Hb : Hp) (_ : TEx A.Hb Hb) (i : Nat) (d : D) G' M', ds[i]? = some d → I i G' M' → Ns (A.re Hb) (ts ⟨NsI (A.re Hb) (I (i + 1)), rt, nx, NsI (A.re Hb) (I (i + 1))⟩) (G'.set j (some d)) M') ∧ ∀ G' M', I ds.length G' M' → Ns A nx G' M') :
    Ns A (tFor (iSeq A.K tl) (gName j) ts ⟨nx, rt, bk, ct⟩) G M := fun σ H S =>
  h σ H S _ fun x M1 v H1 ⟨ds, I, e, k, hs, hd⟩ S1 t1 r1 => by
    subst e
    obtain ⟨a, xs, rfl, ea, r⟩ := r1.tup_inv
    refine ⟨a, rfl, .inr ⟨⟨xs, .of ea⟩, for_tup (K := A.K) (a := a) (xs := xs) (fun i => NsI (A.re H1) (I i)) ⟨_, _, k, S1.re⟩ (fun i σ' H' _ ⟨G', M', q, S'⟩ => .of (S'.tx _ _ ea)) (fun i y σ' H' hy ⟨G', M', q, S'⟩ => ?_) fun σ' H' ⟨G', M', q, S'⟩ => ?_⟩⟩
    · obtain ⟨d, hd', rd⟩ := (r.mono S'.tx).getV hy
      exact hs H1 S1.tx i d G' M' hd' q _ _ (S'.slot j rd)
    · rw [r.length] at q
      exact hd _ _ q _ _ (S'.un S1.tx)
theorem ns_forLx (h : We A tl G M fun x M1 => ∃ (p : Addr) (ds : List D) (I : Nat → Gm → Bxs → Prop), x = .obj p ∧ I 0 G M1 ∧ (∀ i G' M', I i G' M' → ∃ b, (p, b) ∈ M' ∧ Box.rb b = .l ds) ∧
      (∀ (i : Nat) (d : D) G' M', ds[i]? = some d → I i G' M' → Ns A (ts ⟨NsI A (I (i + 1)), rt, nx, NsI A (I (i + 1))⟩) (G'.set j (some d)) M') ∧ ∀ G' M', I ds.length G' M' → Ns A nx G' M') :
    Ns A (tFor (iSeq A.K tl) (gName j) ts ⟨nx, rt, bk, ct⟩) G M := fun σ H S =>
  h σ H S _ fun x M1 v H1 ⟨p, ds, I, e, k, hl, hs, hd⟩ S1 t1 r1 => by
    subst e
    have z : Ns A (tFor (iSeq A.K fun σ H Q => Q (.ref p) H) (gName j) ts ⟨nx, rt, bk, ct⟩) G M1 :=
      ns_forL (ds := ds) (fun q i G' M' => q = p ∧ I i G' M') (fun σ H S Q q => q (.obj p) M1 (.ref p) H ⟨p, rfl, rfl, k⟩ S (.refl _) (.obj p)) (fun q i G' M' ⟨e, hI⟩ => e ▸ hl i G' M' hI) (fun q i d G' M' hd' ⟨e, hI⟩ => by
        subst e
        have := hs i d G' M' hd' hI
        have e2 : NsI A (fun G' M' => q = q ∧ I (i + 1) G' M') = NsI A (I (i + 1)) := by
          funext σ H
          unfold NsI
          simp
        rw [e2]
        exact this) fun q G' M' ⟨e, hI⟩ => hd G' M' hI
    obtain ⟨a, ha, z⟩ := z σ H1 S1
    cases r1.obj_inv
    cases ha
    exact ⟨_, rfl, z⟩
end
end Mv

/-! Fs1: what the defs promise: values, heaps; the laws' heaps. -/
namespace Mv
open PySem PySem.Spec PyProof.Rows L2
/-- data of a plain kind -/
def D.plain : D → Bool
  | .obj _ => false
  | .ty _ => false
  | _ => true
def D.isT : D → Bool
  | .tup _ => true
  | _ => false
def D.isI : D → Bool
  | .int _ => true
  | _ => false
/-! ### the program -/
abbrev fs_is_pointer (C : Exs) : FS D := fsV (fun x => [x]) (fun x => x.plain = true) fun x => .bl x.isT
abbrev fs_leads_young (C : Exs) : FS Val := fsV (fun v => [v.d]) (fun _ => True) fun v => .bl v.yng
abbrev fs_half_of (C : Exs) : FS (Hep × Wd × Int) := fsV (fun g => [g.1.d, (Val.ptr g.2.1 g.2.2).d]) (fun _ => True) fun g => things (g.1.half g.2.1)
abbrev fs_leads (C : Exs) : FS (Hep × Wd × Int) := fsV (fun g => [g.1.d, (Val.ptr g.2.1 g.2.2).d]) (fun _ => True) fun g => .bl (g.1.leads g.2.1 g.2.2)
/-- the thing to which a value leads -/
def Hep.at? (h : Hep) : Val → Option Thing
  | .ptr w p => if h.leads w p then (h.half w)[p.toNat]? else none
  | _ => none
abbrev fs_thing_at (C : Exs) : FS (Hep × Val) := fsX (fun g => [g.1.d, g.2.d]) (fun _ => True) (fun g d => ∃ t, g.1.at? g.2 = some t ∧ d = t.d) fun g cls => g.1.at? g.2 = none ∧ cls = .ref C.nt
abbrev fs_sure_field (C : Exs) : FS (Thing × Int) := fsX (fun g => [g.1.d, .int g.2]) (fun _ => True) (fun g d => inR g.2 g.1.fs.length = true ∧ d = .non) fun g cls => inR g.2 g.1.fs.length = false ∧ cls = .ref C.nf
abbrev fs_field (C : Exs) : FS (Hep × Val × Int) := fsX (fun g => [g.1.d, g.2.1.d, .int g.2.2]) (fun _ => True)
  (fun g d => ∃ t v, g.1.at? g.2.1 = some t ∧ inR g.2.2 t.fs.length = true ∧ t.fs[g.2.2.toNat]? = some v ∧ d = v.d)
  fun g cls => (g.1.at? g.2.1 = none ∧ cls = .ref C.nt) ∨ ∃ t, g.1.at? g.2.1 = some t ∧ inR g.2.2 t.fs.length = false ∧ cls = .ref C.nf
/-! ### the laws' heaps -/
def cellAt (ns : List Int) (k : Int) : Int := ns.getD k.toNat 0
abbrev scr (a : Addr) (ns : List Int) : Addr × Rb := (a, .l (ns.map D.int))
abbrev fs_law_cell_at (C : Exs) : FS (Addr × List Int × Int) := fsR (fun g => [.obj g.1, .int g.2.2]) (fun g => [scr g.1 g.2.1]) (fun g => 0 ≤ g.2.2) fun g d => d = .int (cellAt g.2.1 g.2.2)
abbrev fs_law_mixed (C : Exs) : FS (Addr × List Int × Int) := fsR (fun g => [.obj g.1, .int g.2.2]) (fun g => [scr g.1 g.2.1]) (fun g => 0 ≤ g.2.2) fun g d => ∃ m : Int, d = .int m ∧ 0 ≤ m ∧ m < 2147483647
abbrev fs_law_whole (C : Exs) : FS D := fsV (fun x => [x]) (fun x => x.plain = true) fun x => .bl x.isI
abbrev fs_law_alike (C : Exs) : FS Val := fsV (fun v => [v.d, v.d]) (fun _ => True) fun v => .bl true
/-- a value that a heap of these sizes may hold -/
def okSz (ny no : Nat) : Val → Bool
  | .ptr .y p => inR p ny
  | .ptr .o p => inR p no
  | .ptr _ _ => false
  | _ => true
abbrev szs (a : Addr) (ny no nr : Nat) : Addr × Rb := (a, .l [.int (ny : Int), .int (no : Int), .int (nr : Int)])
structure SzG where
  a : Addr
  ns : List Int
  k : Int
  z : Addr
  ny : Nat
  no : Nat
  zs : List D
abbrev fs_law_value_by (C : Exs) : FS SzG := fsR (fun g => [.obj g.a, .int g.k, .obj g.z]) (fun g => [scr g.a g.ns, (g.z, .l (.int (g.ny : Int) :: .int (g.no : Int) :: g.zs))]) (fun g => 0 ≤ g.k) fun g d => ∃ v : Val, d = v.d ∧ okSz g.ny g.no v = true
abbrev fs_law_thing_by (C : Exs) : FS SzG := fsR (fun g => [.obj g.a, .int g.k, .obj g.z]) (fun g => [scr g.a g.ns, (g.z, .l (.int (g.ny : Int) :: .int (g.no : Int) :: g.zs))]) (fun g => 0 ≤ g.k) fun g d => ∃ t : Thing, d = t.d ∧ t.fs.length ≤ 99 ∧ ∀ v ∈ t.fs, okSz g.ny g.no v = true
abbrev fs_law_heap_by (C : Exs) : FS (Addr × List Int) := fsR (fun g => [.obj g.1]) (fun g => [scr g.1 g.2]) (fun _ => True) fun g d => ∃ h : Hep, d = h.d ∧ Snd h ∧ h.yo.length ≤ 70 ∧ h.ol.length ≤ 70 ∧ h.ro.length ≤ 70 ∧ (∀ t ∈ h.yo, t.fs.length ≤ 100) ∧ ∀ t ∈ h.ol, t.fs.length ≤ 100
abbrev fs_law_book_of (C : Exs) : FS (List Thing) := fsV (fun l => [things l]) (fun l => l.length ≤ 2000 ∧ ∀ t ∈ l, t.fs.length ≤ 200) fun l => pairs (bookOf l)
abbrev fs_law_next (C : Exs) : FS (Wd × SzG) := fsR (fun g => [.str (wordS g.1), .int g.2.k, .obj g.2.z]) (fun g => [(g.2.z, .l (.int (g.2.ny : Int) :: .int (g.2.no : Int) :: g.2.zs))]) (fun g => (g.1 = .y ∨ g.1 = .o) ∧ 0 ≤ g.2.k) fun g d => ∃ v : Val, d = v.d ∧ okSz g.2.ny g.2.no v = true
abbrev fs_law_chained (C : Exs) : FS (List Thing × Wd × SzG) := fsR (fun g => [things g.1, .str (wordS g.2.1), .obj g.2.2.z]) (fun g => [(g.2.2.z, .l (.int (g.2.2.ny : Int) :: .int (g.2.2.no : Int) :: g.2.2.zs))])
  (fun g => (g.2.1 = .y ∨ g.2.1 = .o) ∧ g.1.length ≤ 2000 ∧ ∀ t ∈ g.1, t.fs.length ≤ 99 ∧ ∀ v ∈ t.fs, okSz g.2.2.ny g.2.2.no v = true)
  fun g d => ∃ l : List Thing, d = things l ∧ l.length = g.1.length ∧ ∀ t ∈ l, t.fs.length ≤ 100 ∧ ∀ v ∈ t.fs, okSz g.2.2.ny g.2.2.no v = true
abbrev fs_law_leads (C : Exs) : FS (Hep × Wd × Int) := fsV (fun g => [g.1.d, (Val.ptr g.2.1 g.2.2).d]) (fun g => g.2.1 = .y ∨ g.2.1 = .o) fun g => .bl (g.1.leads g.2.1 g.2.2)
abbrev fs_law_pointer_by (C : Exs) : FS (Int × Hep × Int) := fsR (fun g => [.int g.1, g.2.1.d, .int g.2.2]) (fun _ => []) (fun g => g.2.1.yo.length ≤ 100000 ∧ g.2.1.ol.length ≤ 100000) fun g d => ∃ v : Val, d = v.d ∧ v.yo = true
/-! ### law k01 -/
/-- field refuses: nothing there, or no such field -/
def Refuses (h : Hep) (v : Val) (k : Int) (there : Bool) : Prop := (h.at? v = none ∧ there = false) ∨ ∃ t, h.at? v = some t ∧ inR k t.fs.length = false ∧ there = true
abbrev fs_law_refused_by_any (C : Exs) : FS (Hep × Val × Int × Bool) := fsV (fun g => [g.1.d, g.2.1.d, .int g.2.2.1, .bl g.2.2.2]) (fun g => Refuses g.1 g.2.1 g.2.2.1 g.2.2.2) fun _ => .bl true
abbrev fs_law_k01 (C : Exs) : FS (Addr × List Int) := fsR (fun g => [.obj g.1]) (fun g => [scr g.1 g.2]) (fun _ => True) fun _ d => d = .bl true
end Mv

/-! Fs2: what the defs promise: heaps changed. -/
namespace Mv
open PySem PySem.Spec PyProof.Rows L2
/-- no bound that matters is passed -/
structure Sml (h : Hep) : Prop where
  yo : h.yo.length ≤ 100000
  ol : h.ol.length ≤ 100000
  ro : h.ro.length ≤ 100000
  fy : ∀ t ∈ h.yo, t.fs.length ≤ 100000
  fo : ∀ t ∈ h.ol, t.fs.length ≤ 100000
  bk : h.bk.length ≤ 9000000
abbrev fs_started (C : Exs) : FS Nat := fsV (fun n => [.int (n : Int)]) (fun n => n ≤ 100000) fun n => Hep.d ⟨[], [], List.replicate n .non, []⟩
abbrev fs_changed (C : Exs) : FS (List D × Int × D) := fsV (fun g => [.tup g.1, .int g.2.1, g.2.2]) (fun g => inR g.2.1 g.1.length = true ∧ g.1.length ≤ 1000000) fun g => .tup (g.1.set g.2.1.toNat g.2.2)
/-- values in a tuple or in a list -/
abbrev rowAt (vs : List Val) : Option Addr → D
  | none => row vs
  | some a => .obj a
abbrev rowRs (vs : List Val) : Option Addr → List (Addr × Rb)
  | none => []
  | some a => [(a, .l (vs.map Val.d))]
abbrev fs_all_lead (C : Exs) : FS (Hep × List Val × Option Addr) := fsR (fun g => [g.1.d, rowAt g.2.1 g.2.2]) (fun g => rowRs g.2.1 g.2.2) (fun _ => True) fun g d => d = .bl (g.2.1.all g.1.okV)
abbrev fs_sure_values (C : Exs) : FS (Hep × List Val × Option Addr) := { args := fun g => [g.1.d, rowAt g.2.1 g.2.2], rs := fun g => rowRs g.2.1 g.2.2, pre := fun _ => True, post := fun g d M' => (g.2.1.all g.1.okV = true ∧ d = .non) ∧ M' = [], exc := fun g cls => g.2.1.all g.1.okV = false ∧ cls = .ref C.nt }
abbrev fs_hold (C : Exs) : FS (Hep × Int × Val) := fsX (fun g => [g.1.d, .int g.2.1, g.2.2.d]) (fun g => g.1.ro.length ≤ 100000)
  (fun g d => inR g.2.1 g.1.ro.length = true ∧ g.1.okV g.2.2 = true ∧ d = Hep.d { g.1 with ro := g.1.ro.set g.2.1.toNat g.2.2 })
  fun g cls => (inR g.2.1 g.1.ro.length = false ∧ cls = .ref C.nr) ∨ (inR g.2.1 g.1.ro.length = true ∧ g.1.okV g.2.2 = false ∧ cls = .ref C.nt)
/-- the heap with a thing more -/
def Hep.more (h : Hep) (fs : List Val) : Hep := { h with yo := h.yo ++ [⟨0, fs⟩] }
abbrev fs_made (C : Exs) : FS (Hep × List Val) := fsX (fun g => [g.1.d, row g.2]) (fun g => g.1.yo.length ≤ 100000)
  (fun g d => g.2.all g.1.okV = true ∧ d = .tup [(g.1.more g.2).d, (Val.ptr .y g.1.yo.length).d])
  fun g cls => g.2.all g.1.okV = false ∧ cls = .ref C.nt
/-! ### alike: what is just what is due -/
abbrev fs_law_row_alike (C : Exs) : FS (List Val) := fsV (fun vs => [row vs, row vs]) (fun vs => vs.length ≤ 100000) fun _ => .bl true
abbrev fs_law_half_alike (C : Exs) : FS (List Thing) := fsV (fun l => [things l, things l]) (fun l => l.length ≤ 100000 ∧ ∀ t ∈ l, t.fs.length ≤ 100000) fun _ => .bl true
abbrev fs_law_book_alike (C : Exs) : FS (List (Int × Int)) := fsV (fun l => [pairs l, pairs l]) (fun l => l.length ≤ 9000000) fun _ => .bl true
abbrev fs_law_heap_alike (C : Exs) : FS Hep := fsV (fun h => [h.d, h.d]) Sml fun _ => .bl true
/-! ### law k02 -/
def HoldBad (h : Hep) (k : Int) (v : Val) (due : Str) : Prop := (inR k h.ro.length = false ∧ due = "root") ∨ (inR k h.ro.length = true ∧ h.okV v = false ∧ due = "thing")
abbrev fs_law_refused_by_any_k02 (C : Exs) : FS (Hep × Int × Val × Str) := fsV (fun g => [g.1.d, .int g.2.1, g.2.2.1.d, .str g.2.2.2]) (fun g => g.1.ro.length ≤ 100000 ∧ HoldBad g.1 g.2.1 g.2.2.1 g.2.2.2) fun _ => .bl true
abbrev fs_law_k02 (C : Exs) : FS (Addr × List Int) := fsR (fun g => [.obj g.1]) (fun g => [scr g.1 g.2]) (fun _ => True) fun _ d => d = .bl true
/-! ### law k03 -/
abbrev fs_law_refused_by_any_k03 (C : Exs) : FS (Hep × List Val) := fsV (fun g => [g.1.d, row g.2]) (fun g => g.1.yo.length ≤ 100000 ∧ g.2.all g.1.okV = false) fun _ => .bl true
abbrev fs_law_k03 (C : Exs) : FS (Addr × List Int) := fsR (fun g => [.obj g.1]) (fun g => [scr g.1 g.2]) (fun _ => True) fun _ d => d = .bl true
/-! ### law k04 -/
/-- the heap with a field put -/
def Hep.put (h : Hep) (w : Wd) (p k : Int) (t : Thing) (v : Val) : Hep := match w with
  | .y => { h with yo := h.yo.set p.toNat ⟨t.age, t.fs.set k.toNat v⟩ }
  | _ => { h with ol := h.ol.set p.toNat ⟨t.age, t.fs.set k.toNat v⟩, bk := bookOf (h.ol.set p.toNat ⟨t.age, t.fs.set k.toNat v⟩) }
abbrev fs_booked (C : Exs) : FS (List (Int × Int) × (Int × Int) × Bool) := fsX (fun g => [pairs g.1, pairD g.2.1, .bl g.2.2]) (fun g => Rising g.1 ∧ g.1.length ≤ 9000000)
  (fun g d => ∃ b, d = pairs b ∧ Rising b ∧ ∀ q, q ∈ b ↔ (q ∈ g.1 ∧ q ≠ g.2.1) ∨ (g.2.2 = true ∧ q = g.2.1)) fun _ _ => False
structure PutG where
  h : Hep
  v0 : Val
  k : Int
  v : Val
def PutBad (g : PutG) (told : Str) : Prop := (g.h.at? g.v0 = none ∧ told = "thing") ∨ (∃ t, g.h.at? g.v0 = some t ∧ inR g.k t.fs.length = false ∧ told = "field") ∨ ∃ t, g.h.at? g.v0 = some t ∧ inR g.k t.fs.length = true ∧ g.h.okV g.v = false ∧ told = "thing"
def PutOk (g : PutG) (h2 : Hep) : Prop := ∃ w p t, g.v0 = .ptr w p ∧ g.h.at? (.ptr w p) = some t ∧ inR g.k t.fs.length = true ∧ g.h.okV g.v = true ∧ h2 = g.h.put w p g.k t g.v
abbrev fs_put (C : Exs) : FS PutG := fsX (fun g => [g.h.d, g.v0.d, .int g.k, g.v.d]) (fun g => Sml g.h ∧ g.h.bk = bookOf g.h.ol)
  (fun g d => ∃ h2, PutOk g h2 ∧ d = h2.d)
  fun g cls => (PutBad g "thing" ∧ cls = .ref C.nt) ∨ (PutBad g "field" ∧ cls = .ref C.nf)
abbrev fs_law_refused_by_any_k04 (C : Exs) : FS PutG := fsV (fun g => [g.h.d, g.v0.d, .int g.k, g.v.d]) (fun g => (Sml g.h ∧ g.h.bk = bookOf g.h.ol) ∧ ∃ told, PutBad g told) fun _ => .bl true
abbrev fs_law_due_by (C : Exs) : FS PutG := fsX (fun g => [g.h.d, g.v0.d, .int g.k, g.v.d]) (fun g => ((Sml g.h ∧ g.h.bk = bookOf g.h.ol) ∧ (g.v0.yo = true ∧ g.v.yo = true)) ∧ (g.h.ol.length ≤ 1000 ∧ (∀ t ∈ g.h.ol, t.fs.length ≤ 150)))
  (fun g d => (∃ told, PutBad g told ∧ d = .str told) ∨ ∃ h2, PutOk g h2 ∧ d = h2.d) fun _ _ => False
abbrev fs_law_k04 (C : Exs) : FS (Addr × List Int) := fsR (fun g => [.obj g.1]) (fun g => [scr g.1 g.2]) (fun _ => True) fun _ d => d = .bl true
end Mv

/-! Fs3: what the defs promise: soundness told; the law k05. -/
namespace Mv
open PySem PySem.Spec PyProof.Rows L2
/-- bounds, and words that are young or old -/
structure Ok5 (h : Hep) : Prop where
  yo : h.yo.length ≤ 1000
  ol : h.ol.length ≤ 1000
  ro : h.ro.length ≤ 1000
  fy : ∀ t ∈ h.yo, t.fs.length ≤ 150 ∧ ∀ v ∈ t.fs, v.yo = true
  fo : ∀ t ∈ h.ol, t.fs.length ≤ 150 ∧ ∀ v ∈ t.fs, v.yo = true
  rv : ∀ v ∈ h.ro, v.yo = true
  bk : h.bk.length ≤ 1000000
/-- sound, as the program tells it -/
def Hep.snd (h : Hep) : Bool := h.ro.all h.okV && (h.yo.all fun t => t.fs.all h.okV) && (h.ol.all fun t => t.fs.all h.okV) && eqD (pairs h.bk) (pairs (bookOf h.ol))
abbrev fs_pairs_of (C : Exs) : FS (Int × List Val) := fsN (fun g => [.int g.1, row g.2]) (fun _ => []) (fun g => g.2.length ≤ 200) fun g => (pairsOf g.1 g.2).map pairD
abbrev fs_book_of (C : Exs) : FS (List Thing) := fsV (fun l => [things l]) (fun l => l.length ≤ 2000 ∧ ∀ t ∈ l, t.fs.length ≤ 200) fun l => pairs (bookOf l)
abbrev fs_sound (C : Exs) : FS Hep := fsV (fun h => [h.d]) Ok5 fun h => .bl h.snd
abbrev fs_law_due_of (C : Exs) : FS Hep := fsV (fun h => [h.d]) Ok5 fun h => .bl h.snd
abbrev fs_law_spoilt_value (C : Exs) : FS (Hep × Int × Val) := fsX (fun g => [g.1.d, .int g.2.1, g.2.2.d]) (fun g => Ok5 g.1 ∧ g.2.2.yo = true) (fun g d => ∃ h2, d = Hep.d h2 ∧ Ok5 h2) fun _ _ => False
abbrev fs_law_spoilt_book (C : Exs) : FS (Hep × Int) := fsX (fun g => [g.1.d, .int g.2]) (fun g => Ok5 g.1 ∧ g.1.bk = bookOf g.1.ol) (fun g d => ∃ q : List (Int × Int), d = pairs q ∧ q.length ≤ 1000000) fun _ _ => False
abbrev fs_law_k05 (C : Exs) : FS (Addr × List Int) := fsR (fun g => [.obj g.1]) (fun g => [scr g.1 g.2]) (fun _ => True) fun _ d => d = .bl true
end Mv

/-! Fs4: what the defs promise: what is come to. -/
namespace Mv
open PySem PySem.Spec PyProof.Rows L2
/-- a sound heap within the bounds -/
structure Gd (h : Hep) : Prop where
  s : Snd h
  f : Few h
def fsAt (l : List Thing) (p : Int) : List Val := match l[p.toNat]? with
  | some t => t.fs
  | none => []
/-- the fields of what a value leads to -/
def Hep.fsOf (h : Hep) : Val → List Val
  | .ptr w p => fsAt (h.half w) p
  | _ => []
def Hep.val (h : Hep) (q : Int × Int) : Val := (fsAt h.ol q.1).getD q.2.toNat .non
/-- where one goes from: the roots, the booked fields -/
def Hep.firsts (h : Hep) : List Val := h.ro ++ h.bk.map h.val
def Near (h : Hep) (w : List Val) : Prop := Done Val.yng h.fsOf (meet Val.yng [] h.firsts) w
def Far (h : Hep) (w : List Val) : Prop := Done Val.isP h.fsOf (meet Val.isP [] h.ro) w
abbrev nums (l : List Int) : D := .tup (l.map D.int)
structure MeetG where
  vs : List Val
  oa : Option Addr
  s : Addr
  q : Addr
  w : List Val
abbrev boxK (s q : Addr) (w : List Val) : Bxs := [(s, .dk (seenK w)), (q, .lst ((w.map plc).map D.int))]
abbrev boxT (s q : Addr) (w : List Val) : Bxs := [(s, .dt (seenT w)), (q, .lst (w.map Val.d))]
abbrev fs_meet (C : Exs) : FS MeetG := { args := fun g => [rowAt g.vs g.oa, .obj g.s, .obj g.q], ms := fun g => boxK g.s g.q g.w, rs := fun g => rowRs g.vs g.oa, pre := fun g => AllY g.w ∧ g.w.length ≤ 1000000 ∧ g.vs.length ≤ 100000, post := fun g d M' => d = .non ∧ M' = boxK g.s g.q (meet Val.yng g.w g.vs) }
abbrev fs_meet_all (C : Exs) : FS (List Val × Addr × Addr × List Val) := { args := fun g => [row g.1, .obj g.2.1, .obj g.2.2.1], ms := fun g => boxT g.2.1 g.2.2.1 g.2.2.2, pre := fun g => AllP g.2.2.2 ∧ g.2.2.2.length ≤ 1000000 ∧ g.1.length ≤ 100000, post := fun g d M' => d = .non ∧ M' = boxT g.2.1 g.2.2.1 (meet Val.isP g.2.2.2 g.1) }
abbrev fs_come_young (C : Exs) : FS Hep := fsX (fun h => [h.d]) Gd (fun h d => ∃ w, Near h w ∧ d = nums (chosen h.yo.length (met? .y w))) fun _ _ => False
abbrev fs_come_in_turn (C : Exs) : FS Hep := { args := fun h => [h.d], pre := Gd, post := fun h d M' => ∃ w p, Far h w ∧ d = .obj p ∧ M' = [(p, .lst (w.map Val.d))] }
abbrev fs_come_both (C : Exs) : FS Hep := fsX (fun h => [h.d]) Gd (fun h d => ∃ w, Far h w ∧ d = .tup [nums (chosen h.yo.length (met? .y w)), nums (chosen h.ol.length (met? .o w))]) fun _ _ => False
/-! ### law k06 -/
abbrev fs_law_fields (C : Exs) : FS (Hep × Wd × Int) := fsV (fun g => [g.1.d, (Val.ptr g.2.1 g.2.2).d]) (fun g => g.1.leads g.2.1 g.2.2 = true) fun g => row (g.1.fsOf (.ptr g.2.1 g.2.2))
abbrev fs_law_places (C : Exs) : FS (List Int × Addr) := fsR (fun g => [nums g.1, .obj g.2]) (fun g => [(g.2, .l (g.1.map D.int))]) (fun g => g.1.length ≤ 100000) fun _ d => d = .bl true
/-- the law's way -/
def way (young : Bool) : Val → Bool := if young = true then Val.yng else Val.isP
structure MetG where
  h : Hep
  vs : List Val
  oa : Option Addr
  young : Bool
abbrev fs_law_met (C : Exs) : FS MetG := { args := fun g => [g.h.d, rowAt g.vs g.oa, .bl g.young], rs := fun g => rowRs g.vs g.oa, pre := fun g => Gd g.h ∧ (∀ v ∈ g.vs, g.h.okV v = true ∧ v.yo = true) ∧ g.vs.length ≤ 1000000, post := fun g d M' => ∃ w p, Done (way g.young) g.h.fsOf (meet (way g.young) [] g.vs) w ∧ d = .obj p ∧ M' = [(p, .dt (seenT w))] }
abbrev fs_law_long_chain (C : Exs) : FS Nat := fsV (fun n => [.int (n : Int)]) (fun n => 1000 ≤ n ∧ n ≤ 1999) fun _ => .bl true
abbrev fs_law_k06 (C : Exs) : FS (Addr × List Int) := fsR (fun g => [.obj g.1]) (fun g => [scr g.1 g.2]) (fun _ => True) fun _ d => d = .bl true
end Mv

/-! Ml3: things moved, in plain Lean. -/
namespace Mv
open PySem PySem.Spec PyProof.Rows L2
def lookV (ps : List (Val × Val)) (v : Val) : Option Val := (ps.find? fun q => decide (q.1 = v)).map (·.2)
def mvV (ps : List (Val × Val)) (v : Val) : Val := (lookV ps v).getD v
def mapT (ps : List (Val × Val)) : List (List Key × D) := ps.map fun q => (keyV q.1, q.2.d)
abbrev KeysP (ps : List (Val × Val)) : Prop := ∀ q ∈ ps, q.1.isP = true
theorem look_mapT {v : Val} (hv : v.isP = true) : ∀ {ps : List (Val × Val)}, KeysP ps → lookD (mapT ps) (keyV v) = (lookV ps v).map Val.d
  | [], _ => rfl
  | q :: ps, h => by
    have ih := look_mapT hv (ps := ps) fun x hx => h x (List.mem_cons_of_mem _ hx)
    by_cases e : q.1 = v
    · subst e
      simp [lookV, lookD, mapT]
    · have ne : keyV q.1 ≠ keyV v := fun z => e (keyV_inj (h q List.mem_cons_self) hv z)
      have e1 : lookD (mapT (q :: ps)) (keyV v) = lookD (mapT ps) (keyV v) := by simp [lookD, mapT, ne]
      have e2 : lookV (q :: ps) v = lookV ps v := by simp [lookV, e]
      rw [e1, e2, ih]
theorem put_mapT {ps : List (Val × Val)} {v u : Val} (hp : KeysP ps) (hv : v.isP = true) (hn : ∀ q ∈ ps, q.1 ≠ v) : putD (mapT ps) (keyV v) u.d = mapT (ps ++ [(v, u)]) := by
  unfold putD
  have : ((mapT ps).any fun kv => decide (kv.1 = keyV v)) = false := by
    rw [List.any_eq_false]
    intro kv hkv
    obtain ⟨x, hx, rfl⟩ := List.mem_map.mp hkv
    intro e
    exact hn x hx (keyV_inj (hp x hx) hv (of_decide_eq_true e))
  rw [this, if_neg (by simp)]
  unfold mapT
  rw [List.map_append]
  rfl
theorem lookV_not {ps : List (Val × Val)} {v : Val} (hp : KeysP ps) (hv : v.isP = false) : lookV ps v = none := by
  unfold lookV
  rw [List.find?_eq_none.mpr fun q hq e => by
    have := hp q hq
    rw [of_decide_eq_true e, hv] at this
    cases this]
  rfl
theorem lookV_some {v u : Val} : ∀ {ps : List (Val × Val)}, (ps.map (·.1)).Nodup → (v, u) ∈ ps → lookV ps v = some u
  | [], _, h => by cases h
  | q :: ps, hn, h => by
    rw [List.map_cons, List.nodup_cons] at hn
    rcases List.mem_cons.mp h with rfl | h
    · simp [lookV]
    · have ne : q.1 ≠ v := fun e => hn.1 (List.mem_map.mpr ⟨(v, u), h, e.symm⟩)
      have ih := lookV_some hn.2 h
      unfold lookV at ih ⊢
      simpa [ne] using ih
theorem lookV_none {v : Val} {ps : List (Val × Val)} (h : ∀ q ∈ ps, q.1 ≠ v) : lookV ps v = none := by
  unfold lookV
  rw [List.find?_eq_none.mpr fun q hq e => h q hq (of_decide_eq_true e)]
  rfl
def tmv (ps : List (Val × Val)) (t : Thing) : Thing := ⟨t.age, t.fs.map (mvV ps)⟩
/-- numbered anew -/
def numb (o : Wd) : Nat → List Int → List (Val × Val)
  | _, [] => []
  | i, k :: ks => (.ptr o k, .ptr o (i : Int)) :: numb o (i + 1) ks
theorem numb_app {o : Wd} : ∀ {a b : List Int} {i : Nat}, numb o i (a ++ b) = numb o i a ++ numb o (i + a.length) b
  | [], b, i => rfl
  | k :: a, b, i => by
    show _ :: numb o (i + 1) (a ++ b) = _ :: (numb o (i + 1) a ++ _)
    rw [numb_app (a := a)]
    show _ = _ :: (_ ++ numb o (i + (a.length + 1)) b)
    rw [show i + 1 + a.length = i + (a.length + 1) by omega]
theorem numb_take {o : Wd} {ks : List Int} {j : Nat} {k : Int} (h : ks[j]? = some k) : numb o 0 (ks.take (j + 1)) = numb o 0 (ks.take j) ++ [(.ptr o k, .ptr o (j : Int))] := by
  rw [take_snoc h, numb_app, take_len h, Nat.zero_add]
  rfl
theorem numb_keys {o : Wd} : ∀ {ks : List Int} {i : Nat}, (numb o i ks).map (·.1) = ks.map (Val.ptr o)
  | [], _ => rfl
  | k :: ks, i => by
    show _ :: (numb o (i + 1) ks).map (·.1) = _
    rw [numb_keys]
    rfl
theorem numb_p {o : Wd} {ks : List Int} {i : Nat} : KeysP (numb o i ks) := fun q hq => by
  have : q.1 ∈ (numb o i ks).map (·.1) := List.mem_map.mpr ⟨q, hq, rfl⟩
  rw [numb_keys] at this
  obtain ⟨k, _, e⟩ := List.mem_map.mp this
  rw [← e]; rfl
theorem numb_key {o : Wd} {ks : List Int} {i : Nat} {q : Val × Val} (hq : q ∈ numb o i ks) : ∃ k ∈ ks, q.1 = .ptr o k := by
  have : q.1 ∈ (numb o i ks).map (·.1) := List.mem_map.mpr ⟨q, hq, rfl⟩
  rw [numb_keys] at this
  obtain ⟨k, hk, e⟩ := List.mem_map.mp this
  exact ⟨k, hk, e.symm⟩
theorem numb_len {o : Wd} : ∀ {ks : List Int} {i : Nat}, (numb o i ks).length = ks.length
  | [], _ => rfl
  | k :: ks, i => by simp [numb, numb_len (ks := ks)]
theorem numb_mem {o : Wd} : ∀ {ks : List Int} {i j : Nat} {k : Int}, ks[j]? = some k → (Val.ptr o k, Val.ptr o ((i + j : Nat) : Int)) ∈ numb o i ks
  | [], _, _, _, h => by simp at h
  | a :: ks, i, 0, k, h => by
    simp at h
    subst h
    exact List.mem_cons_self
  | a :: ks, i, j + 1, k, h => by
    have := numb_mem (o := o) (ks := ks) (i := i + 1) (j := j) (by simpa using h)
    rw [show i + 1 + j = i + (j + 1) by omega] at this
    exact List.mem_cons_of_mem _ this
theorem numb_fresh {o : Wd} {ks : List Int} {j : Nat} {k : Int} (hn : ks.Nodup) (h : ks[j]? = some k) : ∀ q ∈ numb o 0 (ks.take j), q.1 ≠ .ptr o k := fun q hq e => by
  obtain ⟨k2, hk2, e2⟩ := numb_key hq
  rw [e] at e2
  injection e2 with _ e3
  subst e3
  obtain ⟨i, hi⟩ := List.getElem?_of_mem hk2
  have hij : i < j := by
    have := (List.getElem?_eq_some_iff.mp hi).1
    simp at this
    omega
  rw [List.getElem?_take_of_lt hij] at hi
  have hl := (List.getElem?_eq_some_iff.mp h).1
  have hli := (List.getElem?_eq_some_iff.mp hi).1
  have a1 := (List.getElem?_eq_some_iff.mp hi).2
  have a2 := (List.getElem?_eq_some_iff.mp h).2
  exact (List.pairwise_iff_getElem.mp hn) i j hli hl hij (a1.trans a2.symm)
theorem asc_nodup {l : List Int} (h : l.Pairwise (· < ·)) : l.Nodup := List.Pairwise.imp (fun {a b} (hab : a < b) (e : a = b) => by omega) h
/-! ### both halves gone through -/
def thingAt (l : List Thing) (k : Int) : Thing := l.getD k.toNat ⟨0, []⟩
def majPs (h : Hep) (w : List Val) : List (Val × Val) := numb .y 0 (chosen h.yo.length (met? .y w)) ++ numb .o 0 (chosen h.ol.length (met? .o w))
def kept (ps : List (Val × Val)) (l : List Thing) (ks : List Int) : List Thing := ks.map fun k => tmv ps (thingAt l k)
def majorH (h : Hep) (w : List Val) : Hep :=
  ⟨kept (majPs h w) h.yo (chosen h.yo.length (met? .y w)), kept (majPs h w) h.ol (chosen h.ol.length (met? .o w)), h.ro.map (mvV (majPs h w)), bookOf (kept (majPs h w) h.ol (chosen h.ol.length (met? .o w)))⟩
theorem majPs_p {h : Hep} {w : List Val} : KeysP (majPs h w) := fun q hq => by
  rcases List.mem_append.mp hq with z | z
  · exact numb_p q z
  · exact numb_p q z
end Mv

/-! Ml4: a long chain of young things. -/
namespace Mv
open PySem PySem.Spec PyProof.Rows L2
/-- young things, each leads to the next -/
def chainL (a : Int) (n : Nat) : List Thing := (List.range (n - 1)).map fun k : Nat => ⟨a, [.ptr .y ((k : Int) + 1)]⟩
def chain (a : Int) (n : Nat) : Hep := ⟨chainL a n ++ [⟨a, [.non]⟩], [], [.non, .ptr .y 0], []⟩
end Mv

/-! Fs5: what the defs promise: things moved; both halves gone through. -/
namespace Mv
open PySem PySem.Spec PyProof.Rows L2
structure MvG where
  ps : List (Val × Val)
  a : Addr
abbrev MvG.rs (g : MvG) : List (Addr × Rb) := [(g.a, .t (mapT g.ps))]
abbrev fs_moved (C : Exs) : FS (Val × MvG) := fsR (fun g => [g.1.d, .obj g.2.a]) (fun g => g.2.rs) (fun g => KeysP g.2.ps) fun g d => d = (mvV g.2.ps g.1).d
abbrev fs_moved_row (C : Exs) : FS (List Val × MvG) := fsR (fun g => [row g.1, .obj g.2.a]) (fun g => g.2.rs) (fun g => KeysP g.2.ps ∧ g.1.length ≤ 100000) fun g d => d = row (g.1.map (mvV g.2.ps))
abbrev fs_half_behind (C : Exs) : FS (List Thing × List Int × MvG) := fsR (fun g => [things g.1, nums g.2.1, .obj g.2.2.a]) (fun g => g.2.2.rs) (fun g => KeysP g.2.2.ps ∧ (∀ k ∈ g.2.1, inR k g.1.length = true) ∧ g.2.1.length ≤ 100000 ∧ ∀ t ∈ g.1, t.fs.length ≤ 100000) fun g d => d = things (kept g.2.2.ps g.1 g.2.1)
abbrev fs_major (C : Exs) : FS Hep := fsX (fun h => [h.d]) Gd (fun h d => ∃ w, Far h w ∧ d = (majorH h w).d) fun _ _ => False
/-! ### law k08 -/
abbrev fs_law_book_ofL (C : Exs) : FS (List Thing × Addr) := fsR (fun g => [.obj g.2]) (fun g => [(g.2, .l (g.1.map Thing.d))]) (fun g => g.1.length ≤ 5000 ∧ ∀ t ∈ g.1, t.fs.length ≤ 200) fun g d => d = pairs (bookOf g.1)
abbrev fs_law_met_k08 (C : Exs) : FS Hep := { args := fun h => [h.d], pre := Gd, post := fun h d M' => ∃ w p, Far h w ∧ d = .obj p ∧ M' = [(p, .dt (seenT w))] }
abbrev fs_law_long_by (C : Exs) : FS (Nat × Int) := fsV (fun g => [.int (g.1 : Int), .int g.2]) (fun g => 1 ≤ g.1 ∧ g.1 ≤ 2000) fun g => (chain g.2 g.1).d
abbrev fs_law_k08 (C : Exs) : FS (Addr × List Int) := fsR (fun g => [.obj g.1]) (fun g => [scr g.1 g.2]) (fun _ => True) fun _ d => d = .bl true
end Mv

/-! Ml5: things numbered as they are met. -/
namespace Mv
open PySem PySem.Spec PyProof.Rows L2
/-- numbers in the order of w -/
def numT : Nat → List Val → List (Val × Val)
  | _, [] => []
  | i, v :: w => (v, .ptr .t (i : Int)) :: numT (i + 1) w
def shapeRow (w : List Val) (vs : List Val) : D := row (vs.map (mvV (numT 0 w)))
end Mv

/-! Fs6: what the defs promise: shapes; the law k09. -/
namespace Mv
open PySem PySem.Spec PyProof.Rows L2
abbrev fs_shape (C : Exs) : FS Hep := fsX (fun h => [h.d]) Gd (fun h d => ∃ w, Far h w ∧ d = .tup [shapeRow w h.ro, .tup (w.map fun v => shapeRow w (h.fsOf v))]) fun _ _ => False
abbrev fs_law_heap_asked (C : Exs) : FS (Addr × List Int) := fsR (fun g => [.obj g.1]) (fun g => [scr g.1 g.2]) (fun _ => True) fun _ d => ∃ h : Hep, d = h.d ∧ Gd h
abbrev fs_law_k09 (C : Exs) : FS (Addr × List Int) := fsR (fun g => [.obj g.1]) (fun g => [scr g.1 g.2]) (fun _ => True) fun _ d => d = .bl true
end Mv

/-! Ml6: the young half gone through, in plain Lean. -/
namespace Mv
open PySem PySem.Spec PyProof.Rows L2
/-- young places numbered anew in a half, from i on -/
def numW (o : Wd) : Nat → List Int → List (Val × Val)
  | _, [] => []
  | i, k :: ks => (.ptr .y k, .ptr o (i : Int)) :: numW o (i + 1) ks
theorem numW_keys {o : Wd} : ∀ {ks : List Int} {i : Nat}, (numW o i ks).map (·.1) = ks.map (Val.ptr .y)
  | [], _ => rfl
  | k :: ks, i => by
    show _ :: (numW o (i + 1) ks).map (·.1) = _
    rw [numW_keys]
    rfl
theorem numW_key {o : Wd} {ks : List Int} {i : Nat} {q : Val × Val} (hq : q ∈ numW o i ks) : ∃ k ∈ ks, q.1 = .ptr .y k := by
  have : q.1 ∈ (numW o i ks).map (·.1) := List.mem_map.mpr ⟨q, hq, rfl⟩
  rw [numW_keys] at this
  obtain ⟨k, hk, e⟩ := List.mem_map.mp this
  exact ⟨k, hk, e.symm⟩
theorem numW_mem {o : Wd} : ∀ {ks : List Int} {i j : Nat} {k : Int}, ks[j]? = some k → (Val.ptr .y k, Val.ptr o ((i + j : Nat) : Int)) ∈ numW o i ks
  | [], _, _, _, h => by simp at h
  | a :: ks, i, 0, k, h => by
    simp at h
    subst h
    exact List.mem_cons_self
  | a :: ks, i, j + 1, k, h => by
    have := numW_mem (o := o) (ks := ks) (i := i + 1) (j := j) (by simpa using h)
    rw [show i + 1 + j = i + (j + 1) by omega] at this
    exact List.mem_cons_of_mem _ this
/-- .. by turns, as they are late or not -/
def numM (late : Int → Bool) : Nat → Nat → List Int → List (Val × Val)
  | _, _, [] => []
  | s, l, k :: ks => if late k = true then (.ptr .y k, .ptr .o (l : Int)) :: numM late s (l + 1) ks else (.ptr .y k, .ptr .y (s : Int)) :: numM late (s + 1) l ks
section
variable {late : Int → Bool}
abbrev lateOf (late : Int → Bool) (ks : List Int) : List Int := ks.filter late
abbrev stayOf (late : Int → Bool) (ks : List Int) : List Int := ks.filter fun k => !late k
theorem numM_keys : ∀ {ks : List Int} {s l : Nat}, (numM late s l ks).map (·.1) = ks.map (Val.ptr .y)
  | [], _, _ => rfl
  | k :: ks, s, l => by
    unfold numM
    split
    · rw [List.map_cons, numM_keys]; rfl
    · rw [List.map_cons, numM_keys]; rfl
theorem numM_p {ks : List Int} {s l : Nat} : KeysP (numM late s l ks) := fun q hq => by
  have : q.1 ∈ (numM late s l ks).map (·.1) := List.mem_map.mpr ⟨q, hq, rfl⟩
  rw [numM_keys] at this
  obtain ⟨k, _, e⟩ := List.mem_map.mp this
  rw [← e]; rfl
theorem numM_len {ks : List Int} {s l : Nat} : (numM late s l ks).length = ks.length := by
  have := congrArg List.length (numM_keys (late := late) (ks := ks) (s := s) (l := l))
  simpa using this
theorem numM_snoc : ∀ {a : List Int} {s l : Nat} {k : Int}, numM late s l (a ++ [k]) = numM late s l a ++ [if late k = true then (.ptr .y k, .ptr .o ((l + (lateOf late a).length : Nat) : Int)) else (.ptr .y k, .ptr .y ((s + (stayOf late a).length : Nat) : Int))]
  | [], s, l, k => by
    show numM late s l [k] = _
    unfold numM
    split <;> rfl
  | b :: a, s, l, k => by
    show numM late s l (b :: (a ++ [k])) = _
    unfold numM
    cases h : late b with
    | true =>
      rw [if_pos rfl, if_pos rfl, numM_snoc]
      simp only [lateOf, stayOf, List.filter_cons, h, if_true, Bool.not_true, Bool.false_eq_true, if_false, List.length_cons, List.cons_append]
      rw [show l + 1 + (List.filter late a).length = l + ((List.filter late a).length + 1) by omega]
    | false =>
      rw [if_neg (by simp), if_neg (by simp), numM_snoc]
      simp only [lateOf, stayOf, List.filter_cons, h, if_true, Bool.not_false, Bool.false_eq_true, if_false, List.length_cons, List.cons_append]
      rw [show s + 1 + (List.filter (fun k => !late k) a).length = s + ((List.filter (fun k => !late k) a).length + 1) by omega]
theorem numM_perm : ∀ {ks : List Int} {s l : Nat}, (numM late s l ks).Perm (numW .y s (stayOf late ks) ++ numW .o l (lateOf late ks))
  | [], _, _ => .refl _
  | k :: ks, s, l => by
    unfold numM
    cases h : late k with
    | true =>
      rw [if_pos rfl]
      simp only [lateOf, stayOf, List.filter_cons, h, if_true, Bool.not_true, Bool.false_eq_true, if_false]
      exact ((numM_perm (ks := ks) (s := s) (l := l + 1)).cons _).trans List.perm_middle.symm
    | false =>
      rw [if_neg (by simp)]
      simp only [lateOf, stayOf, List.filter_cons, h, if_true, Bool.not_false, Bool.false_eq_true, if_false]
      exact (numM_perm (ks := ks) (s := s + 1) (l := l)).cons _
end
theorem lookV_perm {ps qs : List (Val × Val)} (hp : ps.Perm qs) (hn : (ps.map (·.1)).Nodup) (v : Val) : lookV ps v = lookV qs v := by
  by_cases h : ∃ u, (v, u) ∈ ps
  · obtain ⟨u, hu⟩ := h
    rw [lookV_some hn hu, lookV_some ((hp.map _).nodup_iff.mp hn) (hp.mem_iff.mp hu)]
  · rw [lookV_none fun q hq e => h ⟨q.2, by rw [← e]; exact hq⟩, lookV_none fun q hq e => h ⟨q.2, by rw [← e]; exact hp.mem_iff.mpr hq⟩]
/-! ### the young half gone through -/
def ageAt (h : Hep) (k : Int) : Int := (thingAt h.yo k).age
def isLate (h : Hep) (pat : Int) (k : Int) : Bool := decide (pat ≤ ageAt h k)
abbrev keptY (h : Hep) (w : List Val) : List Int := chosen h.yo.length (met? .y w)
abbrev stayK (h : Hep) (pat : Int) (w : List Val) : List Int := stayOf (isLate h pat) (keptY h w)
abbrev lateK (h : Hep) (pat : Int) (w : List Val) : List Int := lateOf (isLate h pat) (keptY h w)
def minPs (h : Hep) (pat : Int) (w : List Val) : List (Val × Val) := numW .y 0 (stayK h pat w) ++ numW .o h.ol.length (lateK h pat w)
def minQs (h : Hep) (pat : Int) (w : List Val) : List (Val × Val) := numM (isLate h pat) 0 h.ol.length (keptY h w)
theorem keptY_nodup {h : Hep} {w : List Val} : ((keptY h w).map (Val.ptr .y)).Nodup :=
  List.pairwise_map.mpr (List.Pairwise.imp (fun {a b} hab e => by injection e with _ e; omega) (asc_chosen (n := h.yo.length) (c := met? .y w)))
theorem minQs_eq {h : Hep} {pat : Int} {w : List Val} : mvV (minQs h pat w) = mvV (minPs h pat w) := by
  funext v
  have := lookV_perm (numM_perm (late := isLate h pat) (ks := keptY h w) (s := 0) (l := h.ol.length)) (by rw [numM_keys]; exact keptY_nodup) v
  show (lookV (numM (isLate h pat) 0 h.ol.length (keptY h w)) v).getD v = _
  rw [this]
  rfl
theorem minQs_p {h : Hep} {pat : Int} {w : List Val} : KeysP (minQs h pat w) := numM_p
theorem minPs_y {h : Hep} {pat : Int} {w : List Val} : ∀ q ∈ minPs h pat w, q.1.yng = true := fun q hq => by
  rcases List.mem_append.mp hq with z | z
  · obtain ⟨k, _, e⟩ := numW_key z
    rw [e]; rfl
  · obtain ⟨k, _, e⟩ := numW_key z
    rw [e]; rfl
theorem minPs_nodup {h : Hep} {pat : Int} {w : List Val} : ((minPs h pat w).map (·.1)).Nodup := by
  have hp := (numM_perm (late := isLate h pat) (ks := keptY h w) (s := 0) (l := h.ol.length)).map (·.1)
  rw [numM_keys] at hp
  exact hp.nodup_iff.mp keptY_nodup
/-- what is not young stays -/
theorem min_fix {h : Hep} {pat : Int} {w : List Val} {v : Val} (hv : v.yng = false) : mvV (minPs h pat w) v = v := by
  unfold mvV
  rw [lookV_none fun q hq e => by
    have := minPs_y q hq
    rw [e, hv] at this
    cases this]
  rfl
def grown (ps : List (Val × Val)) (t : Thing) : Thing := ⟨t.age + 1, t.fs.map (mvV ps)⟩
def olds (h : Hep) (pat : Int) (w : List Val) : List Thing := (h.ol ++ (lateK h pat w).map (thingAt h.yo)).map (tmv (minPs h pat w))
def minorH (h : Hep) (pat : Int) (w : List Val) : Hep :=
  ⟨(stayK h pat w).map fun k => grown (minPs h pat w) (thingAt h.yo k), olds h pat w, h.ro.map (mvV (minPs h pat w)), bookOf (olds h pat w)⟩
/-! ### the book anew -/
/-- the pairs of the things at these places -/
def booksAt (l : List Thing) (ns : List Int) : List (Int × Int) := ns.flatMap fun j => pairsOf j (fsAt l j)
theorem booksAt_rising {l : List Thing} : ∀ {ns : List Int}, ns.Pairwise (· < ·) → Rising (booksAt l ns)
  | [], _ => .nil
  | n :: ns, h => by
    have h' := List.pairwise_cons.mp h
    show Rising (pairsOf n (fsAt l n) ++ booksAt l ns)
    refine List.pairwise_append.mpr ⟨rising_pairsOf, booksAt_rising h'.2, fun a ha b hb => ?_⟩
    obtain ⟨k, v, rfl, _⟩ := mem_pairsOf.mp ha
    obtain ⟨m, hm, hb⟩ := List.mem_flatMap.mp hb
    obtain ⟨k2, v2, rfl, _⟩ := mem_pairsOf.mp hb
    exact .inl (h'.1 m hm)
theorem booksAt_app {l : List Thing} {a b : List Int} : booksAt l (a ++ b) = booksAt l a ++ booksAt l b := List.flatMap_append
/-- the book is that of the places that have any -/
theorem booksAt_eq {l : List Thing} {ns : List Int} (hr : ns.Pairwise (· < ·)) (h0 : ∀ n ∈ ns, inR n l.length = true) (h : ∀ (i k : Nat) t v, l[i]? = some t → t.fs[k]? = some v → v.yng = true → (i : Int) ∈ ns) : booksAt l ns = bookOf l := by
  refine rising_ext (booksAt_rising hr) rising_bookOf fun q => ?_
  rw [mem_bookOf]
  constructor
  · intro hq
    obtain ⟨n, hn, hq⟩ := List.mem_flatMap.mp hq
    obtain ⟨k, v, rfl, h1, h2⟩ := mem_pairsOf.mp hq
    have hin := h0 n hn
    unfold inR at hin
    simp at hin
    obtain ⟨t, ht⟩ : ∃ t, l[n.toNat]? = some t := ⟨_, List.getElem?_eq_getElem (by omega)⟩
    refine ⟨n.toNat, k, t, v, by rw [show ((n.toNat : Nat) : Int) = n by omega], ht, ?_, h2⟩
    unfold fsAt at h1
    rw [ht] at h1
    exact h1
  · rintro ⟨i, k, t, v, rfl, h1, h2, h3⟩
    refine List.mem_flatMap.mpr ⟨i, h i k t v h1 h2 h3, mem_pairsOf.mpr ⟨k, v, rfl, ?_, h3⟩⟩
    unfold fsAt
    rw [show (i : Int).toNat = i by omega, h1]
    exact h2
theorem mv_yng {h : Hep} {pat : Int} {w : List Val} {v : Val} (hv : (mvV (minPs h pat w) v).yng = true) : v.yng = true := by
  cases e : v.yng with
  | true => rfl
  | false => rw [min_fix e, e] at hv; cases hv
end Mv

/-! Fs7: what the defs promise: the young half gone through; the law k07. -/
namespace Mv
open PySem PySem.Spec PyProof.Rows L2
abbrev fs_new_places (C : Exs) : FS (Hep × Int) := { args := fun g => [g.1.d, .int g.2], pre := fun g => Gd g.1, post := fun g d M' => ∃ w p, Near g.1 w ∧ d = .obj p ∧ M' = [(p, .dt (mapT (minQs g.1 g.2 w)))] }
abbrev fs_old_behind (C : Exs) : FS (Hep × MvG) := { args := fun g => [g.1.d, .obj g.2.a], rs := fun g => g.2.rs, pre := fun g => Gd g.1 ∧ KeysP g.2.ps ∧ ∀ v, v.yng = false → mvV g.2.ps v = v, post := fun g d M' => ∃ p, d = .obj p ∧ M' = [(p, .lst ((g.1.ol.map (tmv g.2.ps)).map Thing.d))] }
abbrev fs_minor (C : Exs) : FS (Hep × Int) := fsX (fun g => [g.1.d, .int g.2]) (fun g => Gd g.1) (fun g d => ∃ w, Near g.1 w ∧ d = (minorH g.1 g.2 w).d) fun _ _ => False
/-! ### law k07 -/
abbrev fs_law_met_k07 (C : Exs) : FS Hep := { args := fun h => [h.d], pre := Gd, post := fun h d M' => ∃ w p, Near h w ∧ d = .obj p ∧ M' = [(p, .dt (seenT w))] }
abbrev fs_law_due_of_k07 (C : Exs) : FS (Hep × Int) := fsX (fun g => [g.1.d, .int g.2]) (fun g => Gd g.1) (fun g d => ∃ w, Near g.1 w ∧ d = (minorH g.1 g.2 w).d) fun _ _ => False
abbrev fs_law_k07 (C : Exs) : FS (Addr × List Int) := fsR (fun g => [.obj g.1]) (fun g => [scr g.1 g.2]) (fun _ => True) fun _ d => d = .bl true
end Mv

/-! Fs8: one picture of things in another heap; what the defs of the laws k10, k11 promise. -/
namespace Mv
open PySem PySem.Spec PyProof.Rows L2
/-- φ takes what Q has to things of h2: fields go with it, no two become one -/
structure Emb (f : Val → List Val) (Q : Val → Prop) (φ : Val → Val) (h2 : Hep) : Prop where
  fix : ∀ v, v.isP = false → φ v = v
  isP : ∀ v, Q v → v.isP = true
  ok : ∀ v, Q v → okP h2.yo.length h2.ol.length (φ v)
  inj : ∀ u v, Q u → Q v → φ u = φ v → u = v
  step : ∀ v, Q v → h2.fsOf (φ v) = (f v).map φ
  cl : ∀ v, Q v → ∀ u ∈ f v, u.isP = true → Q u
/-- what a minor keeps: all old things, the young ones come to -/
def KeepM (h : Hep) (w : List Val) (v : Val) : Prop := (∃ p : Nat, p < h.ol.length ∧ v = .ptr .o (p : Int)) ∨ v ∈ w
/-! ### side by side -/
def thereT (φ : Val → Val) (w : List Val) : List (List Key × D) := w.map fun v => (keyV v, (φ v).d)
abbrev boxM (t b q : Addr) (φ : Val → Val) (w : List Val) : Bxs := [(t, .dt (thereT φ w)), (b, .dt (seenT (w.map φ))), (q, .lst (w.map Val.d))]
structure MatG where
  one : Val
  φ : Val → Val
  w : List Val
  t : Addr
  b : Addr
  q : Addr
/-- what may be matched now -/
structure MatOk (φ : Val → Val) (w : List Val) (one : Val) : Prop where
  ap : AllP w
  len : w.length ≤ 1000000
  fp : AllP (w.map φ)
  fix : one.isP = false → φ one = one
  ptr : one.isP = true → (φ one).isP = true ∧ (φ one).yo = true
  new : one.isP = true → one ∉ w → φ one ∉ w.map φ
abbrev fs_law_matched (C : Exs) : FS MatG := { args := fun g => [g.one.d, (g.φ g.one).d, .obj g.t, .obj g.b, .obj g.q], ms := fun g => boxM g.t g.b g.q g.φ g.w, pre := fun g => MatOk g.φ g.w g.one, post := fun g d M' => d = .bl true ∧ M' = boxM g.t g.b g.q g.φ (meet1 Val.isP g.w g.one) }
structure WlkG where
  h : Hep
  h2 : Hep
  Q : Val → Prop
  φ : Val → Val
  w : List Val
  t : Addr
  b : Addr
  q : Addr
abbrev fs_law_walked (C : Exs) : FS WlkG := { args := fun g => [g.h.d, g.h2.d, .obj g.t, .obj g.b, .obj g.q], ms := fun g => boxM g.t g.b g.q g.φ g.w, pre := fun g => Gd g.h ∧ Emb g.h.fsOf g.Q g.φ g.h2 ∧ (∀ v, g.Q v → okP g.h.yo.length g.h.ol.length v) ∧ g.w.Nodup ∧ (∀ v ∈ g.w, g.Q v), post := fun g d M' => d = .bl true ∧ ∃ w, Done Val.isP g.h.fsOf g.w w ∧ M' = boxM g.t g.b g.q g.φ w }
abbrev fs_law_right (C : Exs) : FS Hep := fsV (fun h => [h.d]) (fun _ => True) fun _ => .bl true
structure AgeG where
  h : Hep
  h2 : Hep
  pat : Int
  φ : Val → Val
  w : List Val
  t : Addr
  q : Addr
/-- where it lies and how old it is, ahead and behind -/
def AgeOk (h h2 : Hep) (pat : Int) (φ : Val → Val) (v : Val) : Prop := ∃ (o o2 : Wd) (p p2 : Nat) (t t2 : Thing), v = .ptr o (p : Int) ∧ (o = .y ∨ o = .o) ∧ (h.half o)[p]? = some t ∧ φ v = .ptr o2 (p2 : Int) ∧ (o2 = .y ∨ o2 = .o) ∧ (h2.half o2)[p2]? = some t2 ∧ (o2 = .o ↔ (o = .o ∨ pat ≤ t.age)) ∧ t2.age = (if o = .y ∧ t.age < pat then t.age + 1 else t.age)
abbrev fs_law_ages (C : Exs) : FS AgeG := fsR (fun g => [g.h.d, g.h2.d, .obj g.t, .obj g.q, .int g.pat]) (fun g => [(g.t, .t (thereT g.φ g.w)), (g.q, .l (g.w.map Val.d))]) (fun g => AllP g.w ∧ (∀ v ∈ g.w, AgeOk g.h g.h2 g.pat g.φ v) ∧ g.w.length ≤ 1000000 ∧ (g.w.map g.φ).Nodup ∧ ∀ x, x ∈ g.w.map g.φ ↔ okP g.h2.yo.length g.h2.ol.length x) fun _ d => d = .bl true
abbrev fs_law_k10 (C : Exs) : FS (Addr × List Int) := fsR (fun g => [.obj g.1]) (fun g => [scr g.1 g.2]) (fun _ => True) fun _ d => d = .bl true
abbrev fs_law_k11 (C : Exs) : FS (Addr × List Int) := fsR (fun g => [.obj g.1]) (fun g => [scr g.1 g.2]) (fun _ => True) fun _ d => d = .bl true
end Mv

/-! Fs9: a plain list of things that never move, and the heap beside it; what the defs of the law k12 promise. -/
namespace Mv
open PySem PySem.Spec PyProof.Rows L2
/-- the fields of a plain thing -/
def tfs (ths : List (List Val)) : Val → List Val
  | .ptr .t i => ths.getD i.toNat []
  | _ => []
/-- the heap holds what the plain list has: φ tells where each thing lies -/
structure Sim (n : Nat) (h : Hep) (roots : List Val) (ths : List (List Val)) (φ : Val → Val) (Q : Val → Prop) : Prop where
  s : Snd h
  em : Emb (tfs ths) Q φ h
  ro : h.ro = roots.map φ
  qr : ∀ v ∈ roots, v.isP = true → Q v
  qt : ∀ v, Q v → ∃ i : Nat, i < ths.length ∧ v = .ptr .t (i : Int)
  lh : h.yo.length + h.ol.length ≤ n
  lt : ths.length ≤ n
  lr : roots.length ≤ 200
  fy : ∀ t ∈ h.yo, t.fs.length ≤ 150
  fo : ∀ t ∈ h.ol, t.fs.length ≤ 150
  ft : ∀ r ∈ ths, r.length ≤ 150
/-- the boxes of the plain side: the roots' list, the things' list, the things -/
abbrev thB (ts : List (Addr × List Val)) : Bxs := ts.map fun t => (t.1, .lst (t.2.map Val.d))
abbrev plB (r th : Addr) (roots : List Val) (ts : List (Addr × List Val)) : Bxs := (r, .lst (roots.map Val.d)) :: (th, .lst (ts.map fun t => .obj t.1)) :: thB ts
abbrev thR (ts : List (Addr × List Val)) : List (Addr × Rb) := ts.map fun t => (t.1, .l (t.2.map Val.d))
abbrev thsR (th : Addr) (ts : List (Addr × List Val)) : List (Addr × Rb) := (th, .l (ts.map fun t => .obj t.1)) :: thR ts
abbrev plR (r th : Addr) (roots : List Val) (ts : List (Addr × List Val)) : List (Addr × Rb) := (r, .l (roots.map Val.d)) :: thsR th ts
abbrev rowsOf (ts : List (Addr × List Val)) : List (List Val) := ts.map (·.2)
/-! ### the plain list beside the heap -/
structure WkpG where
  th : Addr
  ts : List (Addr × List Val)
  h2 : Hep
  Q : Val → Prop
  φ : Val → Val
  w : List Val
  t : Addr
  b : Addr
  q : Addr
abbrev fs_law_walked_k12 (C : Exs) : FS WkpG := { args := fun g => [.obj g.th, g.h2.d, .obj g.t, .obj g.b, .obj g.q], ms := fun g => boxM g.t g.b g.q g.φ g.w, rs := fun g => thsR g.th g.ts, pre := fun g => Emb (tfs (rowsOf g.ts)) g.Q g.φ g.h2 ∧ (∀ v, g.Q v → ∃ i : Nat, i < g.ts.length ∧ v = .ptr .t (i : Int)) ∧ g.ts.length ≤ 2000 ∧ (∀ t ∈ g.ts, t.2.length ≤ 200) ∧ g.w.Nodup ∧ (∀ v ∈ g.w, g.Q v), post := fun g d M' => d = .bl true ∧ ∃ w, M' = boxM g.t g.b g.q g.φ w }
abbrev fs_law_right_k12 (C : Exs) : FS Hep := fsV (fun h => [h.d]) (fun _ => True) fun _ => .bl true
structure LikG where
  r : Addr
  th : Addr
  roots : List Val
  ts : List (Addr × List Val)
  h : Hep
abbrev fs_law_like_plain (C : Exs) : FS LikG := fsR (fun g => [.obj g.r, .obj g.th, g.h.d]) (fun g => plR g.r g.th g.roots g.ts) (fun g => ∃ φ Q, Sim 2000 g.h g.roots (rowsOf g.ts) φ Q) fun _ d => d = .bl true
abbrev fs_law_number_by (C : Exs) : FS (Int × Int) := fsX (fun g => [.int g.1, .int g.2]) (fun _ => True) (fun _ d => ∃ i : Int, d = .int i) fun _ _ => False
structure ParG where
  code : Int
  far : Int
  h : Hep
  r : Addr
  roots : List Val
  φ : Val → Val
  k : Int
abbrev fs_law_part (C : Exs) : FS ParG := fsR (fun g => [.int g.code, .int g.far, g.h.d, .obj g.r, .int g.k]) (fun g => [(g.r, .l (g.roots.map Val.d))]) (fun g => 0 ≤ g.code ∧ 0 ≤ g.k ∧ 0 < g.roots.length ∧ g.roots.length ≤ 200 ∧ g.h.ro = g.roots.map g.φ ∧ ∀ v, v.isP = false → g.φ v = v)
  fun g d => ∃ u : Val, d = .tup [(g.φ u).d, u.d] ∧ (u.isP = true → u ∈ g.roots)
structure StpG where
  n : Nat
  h : Hep
  r : Addr
  th : Addr
  roots : List Val
  ts : List (Addr × List Val)
  k : Int
  rest : Int
  far : Int
/-- a step's end: the heap and the plain side, one thing more at most -/
def StpTo (g : StpG) (d : D) (M' : Bxs) : Prop := ∃ (h2 : Hep) (roots2 : List Val) (ts2 : List (Addr × List Val)) (φ : Val → Val) (Q : Val → Prop), d = h2.d ∧ M' = plB g.r g.th roots2 ts2 ∧ Sim (g.n + 1) h2 roots2 (rowsOf ts2) φ Q ∧ roots2.length = g.roots.length
abbrev fs_law_made_by (C : Exs) : FS StpG := { args := fun g => [g.h.d, .obj g.r, .obj g.th, .int g.k, .int g.rest, .int g.far], ms := fun g => plB g.r g.th g.roots g.ts, pre := fun g => (∃ φ Q, Sim g.n g.h g.roots (rowsOf g.ts) φ Q) ∧ g.n ≤ 1900 ∧ 0 ≤ g.k ∧ g.k < g.roots.length ∧ 0 ≤ g.rest ∧ g.rest < 2147483647, post := StpTo }
abbrev fs_law_step (C : Exs) : FS StpG := { args := fun g => [g.h.d, .obj g.r, .obj g.th, .int g.rest, .int g.far], ms := fun g => plB g.r g.th g.roots g.ts, pre := fun g => (∃ φ Q, Sim g.n g.h g.roots (rowsOf g.ts) φ Q) ∧ g.n ≤ 1900 ∧ 0 < g.roots.length ∧ 0 ≤ g.rest ∧ g.rest < 2147483647, post := StpTo }
abbrev fs_law_k12 (C : Exs) : FS (Addr × List Int) := fsR (fun g => [.obj g.1]) (fun g => [scr g.1 g.2]) (fun _ => True) fun _ d => d = .bl true
end Mv

/-! Fs10: deeds; what they do to a heap, and to a plain list of things; what the defs of plays promise. -/
namespace Mv
open PySem PySem.Spec PyProof.Rows L2
inductive Deed where
  | make (k : Int) (ps : List Val) | put (k f : Int) (p : Val) | set (k : Int) (p : Val) | take (k j f : Int) | look (k : Int) | same (k j : Int) | minor | major
def Deed.d : Deed → D
  | .make k ps => .tup [.str "make", .int k, row ps]
  | .put k f p => .tup [.str "put", .int k, .int f, p.d]
  | .set k p => .tup [.str "set", .int k, p.d]
  | .take k j f => .tup [.str "take", .int k, .int j, .int f]
  | .look k => .tup [.str "look", .int k]
  | .same k j => .tup [.str "same", .int k, .int j]
  | .minor => .tup [.str "minor"]
  | .major => .tup [.str "major"]
/-- a part: None, a number, a root -/
def Val.pt : Val → Bool
  | .ptr .r _ => true
  | .ptr _ _ => false
  | _ => true
def Deed.ok : Deed → Prop
  | .make _ ps => ps.length ≤ 100 ∧ ∀ p ∈ ps, p.pt = true
  | .put _ _ p => p.pt = true
  | .set _ p => p.pt = true
  | _ => True
def rootAt (rs : List Val) (k : Int) : Option Val := if inR k rs.length = true then rs[k.toNat]? else none
def partAt (rs : List Val) : Val → Option Val
  | .ptr _ j => rootAt rs j
  | v => some v
def partVals (rs : List Val) (ps : List Val) : List Val := ps.map fun p => (partAt rs p).getD .non
def allParts (rs : List Val) (ps : List Val) : Bool := ps.all fun p => (partAt rs p).isSome
inductive Out where
  | ok (h : Hep) | noRoot | noThing | noField
noncomputable def nearOf (h : Hep) : List Val := Classical.epsilon fun w => Near h w
noncomputable def farOf (h : Hep) : List Val := Classical.epsilon fun w => Far h w
noncomputable def minorF (h : Hep) (pat : Int) : Hep := minorH h pat (nearOf h)
noncomputable def majorF (h : Hep) : Hep := majorH h (farOf h)
/-- the heap that a make makes its thing in -/
noncomputable def roomy (room pat : Int) (h : Hep) : Hep := if room ≤ (h.yo.length : Int) then minorF h pat else h
def Hep.made (h : Hep) (k : Int) (us : List Val) : Hep := { h.more us with ro := h.ro.set k.toNat (.ptr .y (h.yo.length : Int)) }
def Hep.held (h : Hep) (k : Int) (v : Val) : Hep := { h with ro := h.ro.set k.toNat v }
noncomputable def chg (room pat : Int) (h : Hep) : Deed → Out
  | .minor => .ok (minorF h pat)
  | .major => .ok (majorF h)
  | .make k ps => if (rootAt h.ro k).isSome && allParts h.ro ps then .ok ((roomy room pat h).made k (partVals (roomy room pat h).ro ps)) else .noRoot
  | .set k p => match rootAt h.ro k, partAt h.ro p with
    | some _, some v => .ok (h.held k v)
    | _, _ => .noRoot
  | .put k f p => match rootAt h.ro k, partAt h.ro p with
    | some x, some v => match x, h.at? x with
      | .ptr w q, some t => if inR f t.fs.length then .ok (h.put w q f t v) else .noField
      | _, _ => .noThing
    | _, _ => .noRoot
  | .take k j f => match rootAt h.ro k, rootAt h.ro j with
    | some _, some x => match h.at? x with
      | some t => if inR f t.fs.length then .ok (h.held k (t.fs.getD f.toNat .non)) else .noField
      | none => .noThing
    | _, _ => .noRoot
  | _ => .ok h
def asks (h : Hep) : Deed → Option D
  | .look k => (rootAt h.ro k).map fun x => match h.at? x with
    | some t => .tup [.str "thing", .int (t.fs.length : Int)]
    | none => x.d
  | .same k j => match rootAt h.ro k, rootAt h.ro j with
    | some x, some y => some (.bl (x.isP && decide (x = y)))
    | _, _ => none
  | _ => none
def Deed.ask : Deed → Bool
  | .look _ => true
  | .same _ _ => true
  | _ => false
/-- a deed done: the heap, the answer -/
noncomputable def hpStep (room pat : Int) (h : Hep) (d : Deed) : Hep × D :=
  if d.ask then (h, (asks h d).getD (.str "no root")) else match chg room pat h d with
  | .ok h2 => (h2, .str "done")
  | .noRoot => (h, .str "no root")
  | .noThing => (h, .str "no thing")
  | .noField => (h, .str "no field")
noncomputable def hpRun (room pat : Int) (h : Hep) : List Deed → Hep
  | [] => h
  | d :: ds => hpRun room pat (hpStep room pat h d).1 ds
def hep0 (many : Nat) : Hep := ⟨[], [], List.replicate many .non, []⟩
/-! the plain list -/
structure Pl where
  ro : List Val
  th : List (List Val)
def Pl.row (s : Pl) : Val → Option (List Val)
  | .ptr _ i => s.th[i.toNat]?
  | _ => none
def plStep (s : Pl) : Deed → Pl × D
  | .minor => (s, .str "done")
  | .major => (s, .str "done")
  | .make k ps => if (rootAt s.ro k).isSome && allParts s.ro ps then (⟨s.ro.set k.toNat (.ptr .t (s.th.length : Int)), s.th ++ [partVals s.ro ps]⟩, .str "done") else (s, .str "no root")
  | .set k p => match rootAt s.ro k, partAt s.ro p with
    | some _, some v => (⟨s.ro.set k.toNat v, s.th⟩, .str "done")
    | _, _ => (s, .str "no root")
  | .put k f p => match rootAt s.ro k, partAt s.ro p with
    | some x, some v => match x, s.row x with
      | .ptr _ i, some r => if inR f r.length then (⟨s.ro, s.th.set i.toNat (r.set f.toNat v)⟩, .str "done") else (s, .str "no field")
      | _, _ => (s, .str "no thing")
    | _, _ => (s, .str "no root")
  | .take k j f => match rootAt s.ro k, rootAt s.ro j with
    | some _, some x => match s.row x with
      | some r => if inR f r.length then (⟨s.ro.set k.toNat (r.getD f.toNat .non), s.th⟩, .str "done") else (s, .str "no field")
      | none => (s, .str "no thing")
    | _, _ => (s, .str "no root")
  | .look k => match rootAt s.ro k with
    | some x => match s.row x with
      | some r => (s, .tup [.str "thing", .int (r.length : Int)])
      | none => (s, x.d)
    | none => (s, .str "no root")
  | .same k j => match rootAt s.ro k, rootAt s.ro j with
    | some x, some y => (s, .bl (x.isP && decide (x = y)))
    | _, _ => (s, .str "no root")
def plRun (s : Pl) : List Deed → Pl
  | [] => s
  | d :: ds => plRun (plStep s d).1 ds
def plAns (s : Pl) : List Deed → List D
  | [] => []
  | d :: ds => (plStep s d).2 :: plAns (plStep s d).1 ds
def pl0 (many : Nat) : Pl := ⟨List.replicate many .non, []⟩
/-- some plain list stands beside the heap -/
def Sims (n : Nat) (h : Hep) (s : Pl) : Prop := ∃ φ Q, Sim n h s.ro s.th φ Q
/-! ### plays -/
abbrev fs_root_of (C : Exs) : FS (Hep × Int) := fsX (fun g => [g.1.d, .int g.2]) (fun _ => True) (fun g d => ∃ v, rootAt g.1.ro g.2 = some v ∧ d = v.d) fun g cls => rootAt g.1.ro g.2 = none ∧ cls = .ref C.nr
abbrev fs_part_of (C : Exs) : FS (Hep × Val) := fsX (fun g => [g.1.d, g.2.d]) (fun _ => True) (fun g d => ∃ v, partAt g.1.ro g.2 = some v ∧ d = v.d) fun g cls => partAt g.1.ro g.2 = none ∧ cls = .ref C.nr
structure DoG where
  n : Nat
  h : Hep
  s : Pl
  dd : Deed
  room : Int
  pat : Int
def DoG.fit (g : DoG) : Prop := Sims g.n g.h g.s ∧ g.n ≤ 1900 ∧ g.dd.ok
abbrev fs_made_at (C : Exs) : FS (DoG × Int × List Val) := fsX (fun g => [g.1.h.d, (Deed.make g.2.1 g.2.2).d, .int g.1.room, .int g.1.pat]) (fun g => g.1.fit ∧ g.1.dd = .make g.2.1 g.2.2) (fun g d => ∃ h2, chg g.1.room g.1.pat g.1.h (.make g.2.1 g.2.2) = .ok h2 ∧ d = h2.d) fun g cls => chg g.1.room g.1.pat g.1.h (.make g.2.1 g.2.2) = .noRoot ∧ cls = .ref C.nr
abbrev fs_changed_by (C : Exs) : FS DoG := fsX (fun g => [g.h.d, g.dd.d, .int g.room, .int g.pat]) (fun g => g.fit ∧ g.dd.ask = false) (fun g d => ∃ h2, chg g.room g.pat g.h g.dd = .ok h2 ∧ d = h2.d)
  fun g cls => (chg g.room g.pat g.h g.dd = .noRoot ∧ cls = .ref C.nr) ∨ (chg g.room g.pat g.h g.dd = .noThing ∧ cls = .ref C.nt) ∨ (chg g.room g.pat g.h g.dd = .noField ∧ cls = .ref C.nf)
abbrev fs_asked (C : Exs) : FS DoG := fsX (fun g => [g.h.d, g.dd.d]) (fun g => g.fit ∧ g.dd.ask = true) (fun g d => asks g.h g.dd = some d) fun g cls => asks g.h g.dd = none ∧ cls = .ref C.nr
structure PlyG where
  many : Nat
  room : Int
  pat : Int
  a : Addr
  dds : List Deed
abbrev fs_play (C : Exs) : FS PlyG := { args := fun g => [.int (g.many : Int), .int g.room, .int g.pat, .obj g.a], rs := fun g => [(g.a, .l (g.dds.map Deed.d))], pre := fun g => g.many ≤ 150 ∧ g.dds.length ≤ 1000 ∧ ∀ d ∈ g.dds, d.ok, post := fun g d M' => ∃ p, d = .tup [.obj p, (hpRun g.room g.pat (hep0 g.many) g.dds).d] ∧ M' = [(p, .lst (plAns (pl0 g.many) g.dds))] }
theorem x_c2 {A : Am} {G : Gm} {M : Bxs} {R : D → Bxs → Prop} {a b c : D} {l : List D} (k : R c M) : Op2 A (rIx A.K) (.tup (a :: b :: c :: l)) (.int 2) G M R := o_ixT atI2 k
theorem x_c3 {A : Am} {G : Gm} {M : Bxs} {R : D → Bxs → Prop} {a b c e : D} {l : List D} (k : R e M) : Op2 A (rIx A.K) (.tup (a :: b :: c :: e :: l)) (.int 3) G M R := o_ixT atI3 k
theorem e_lit {A : Am} {G : Gm} {M : Bxs} {R : D → Bxs → Prop} {a b : Str} (ha : okD (.str a) = true) (hb : okD (.str b) = true) (k : R (.bl (decide (a = b))) M) : Op2 A (rEqD A.K) (.str a) (.str b) G M R := o_eq ha hb (by rw [eq_str]; exact k)
end Mv

/-! Fs11: what the defs of the law k13 promise. -/
namespace Mv
open PySem PySem.Spec PyProof.Rows L2
structure PbyG where
  code : Int
  far : Int
  k : Int
  many : Nat
abbrev fs_law_part_by (C : Exs) : FS PbyG := fsX (fun g => [.int g.code, .int g.far, .int g.k, .int (g.many : Int)]) (fun g => 0 ≤ g.code) (fun g d => ∃ p : Val, d = p.d ∧ p.pt = true) fun _ _ => False
abbrev fs_law_root_by (C : Exs) : FS (Int × Nat) := fsX (fun g => [.int g.1, .int (g.2 : Int)]) (fun g => 0 ≤ g.1 ∧ g.1 < 4 * (g.2 : Int) + 4 ∧ g.2 ≤ 1000) (fun g d => ∃ i : Int, d = .int i) fun _ _ => False
structure MpsG where
  rest : Int
  far : Int
  k : Int
  many : Nat
  size : Nat
abbrev fs_law_make_parts (C : Exs) : FS MpsG := fsX (fun g => [.int g.rest, .int g.far, .int g.k, .int (g.many : Int), .int (g.size : Int)]) (fun g => 0 ≤ g.rest ∧ g.rest < 2147483647 ∧ g.size ≤ 100 ∧ g.many ≤ 1000) (fun g d => ∃ ps : List Val, d = row ps ∧ ps.length ≤ 100 ∧ ∀ p ∈ ps, p.pt = true) fun _ _ => False
abbrev fs_law_deed_by (C : Exs) : FS (Int × Int × Nat) := fsX (fun g => [.int g.1, .int g.2.1, .int (g.2.2 : Int)]) (fun g => 0 ≤ g.1 ∧ g.1 < 2147483647 ∧ g.2.2 ≤ 1000) (fun g d => ∃ dd : Deed, d = dd.d ∧ dd.ok) fun _ _ => False
abbrev fs_law_room_by (C : Exs) : FS Int := fsX (fun g => [.int g]) (fun _ => True) (fun g d => ∃ i : Int, d = .int i) fun _ _ => False
/-- the roots that a part names -/
def rootsOf (ps : List Val) : List Int := (ps.filter Val.isP).map plc
def Deed.named : Deed → List Int
  | .make k ps => rootsOf ps ++ [k]
  | .put k _ p => rootsOf [p] ++ [k]
  | .set k p => rootsOf [p] ++ [k]
  | .take k j _ => [j, k]
  | .look k => [k]
  | .same k j => [j, k]
  | _ => []
abbrev fs_law_roots_in (C : Exs) : FS Deed := fsN (fun d => [d.d]) (fun _ => []) (fun d => d.ok) fun d => d.named.map D.int
abbrev fs_law_meant (C : Exs) : FS (Val × Addr × List Val) := fsR (fun g => [g.1.d, .obj g.2.1]) (fun g => [(g.2.1, .l (g.2.2.map Val.d))]) (fun g => (partAt g.2.2 g.1).isSome = true) fun g d => d = ((partAt g.2.2 g.1).getD .non).d
/-- every root that is named is one -/
def Named (rs : List Val) (d : Deed) : Prop := ∀ k ∈ d.named, inR k rs.length = true
structure AskG where
  n : Nat
  h : Hep
  r : Addr
  th : Addr
  roots : List Val
  ts : List (Addr × List Val)
  dd : Deed
abbrev AskG.s (g : AskG) : Pl := ⟨g.roots, rowsOf g.ts⟩
abbrev fs_law_asked (C : Exs) : FS AskG := fsR (fun g => [g.dd.d, .obj g.r, .obj g.th]) (fun g => plR g.r g.th g.roots g.ts) (fun g => Sims g.n g.h g.s ∧ g.dd.ask = true ∧ Named g.roots g.dd) fun g d => d = (plStep g.s g.dd).2
abbrev fs_law_answer (C : Exs) : FS AskG := { args := fun g => [g.dd.d, .obj g.r, .obj g.th], ms := fun g => plB g.r g.th g.roots g.ts, pre := fun g => Sims g.n g.h g.s ∧ g.dd.ok ∧ g.n ≤ 1900, post := fun g d M' => d = (plStep g.s g.dd).2 ∧ ∃ roots2 ts2, M' = plB g.r g.th roots2 ts2 ∧ (plStep g.s g.dd).1 = ⟨roots2, rowsOf ts2⟩ }
/-- what an answer may be -/
def AnsD (d : D) : Prop := d = .str "done" ∨ d = .str "no root" ∨ d = .str "no thing" ∨ d = .str "no field" ∨ (∃ b, d = .bl b) ∨ ∃ v : Val, d = v.d
abbrev fs_law_told (C : Exs) : FS D := fsV (fun d => [d, d]) AnsD fun _ => .bl true
abbrev fs_law_like_plain_k13 (C : Exs) : FS LikG := fsR (fun g => [.obj g.r, .obj g.th, g.h.d]) (fun g => plR g.r g.th g.roots g.ts) (fun g => ∃ φ Q, Sim 2000 g.h g.roots (rowsOf g.ts) φ Q) fun _ d => d = .bl true
abbrev fs_law_k13 (C : Exs) : FS (Addr × List Int) := fsR (fun g => [.obj g.1]) (fun g => [scr g.1 g.2]) (fun _ => True) fun _ d => d = .bl true
end Mv

namespace Mv
open PySem PySem.Spec PyProof.Rows L2
def t_is_pointer (K : PySem.W.Frag) (C : Exs) (E : XK) : TS :=
  (tRet (tCB (rIsi K) (tCons (tVar 0) (tCons (tC (.ty "tuple")) tNil))))
abbrev n_is_pointer : List Str := ["value"]
def t_changed (K : PySem.W.Frag) (C : Exs) (E : XK) : TS :=
  (tRet (tOp (rPlus K) (tOp (rPlus K) (tSl (rCut K) (tVar 0) tNoPart (tPart (tVar 1))) (tTup (tCons (tVar 2) tNil))) (tSl (rCut K) (tVar 0) (tPart (tOp (rPlus K) (tVar 1) (tC (.int 1)))) tNoPart)))
abbrev n_changed : List Str := ["row", "at", "item"]
def t_booked (K : PySem.W.Frag) (C : Exs) (E : XK) : TS :=
  (tSeq (tAsg (tLc (iSeq K (tVar 0)) (gName 4) (tTest (tOp (rNeD K) (tVar 4) (tVar 1))) (tVar 4) [4]) (gName 3))
    (tSeq (tIfS (tB (tVar 2))
    (tDrop (tBM K "list" rAppend (tVar 3) (tCons (tVar 1) tNil)))
    tNext)
    (tRet (tCB (rTupS K) (tCons (tCB (rSrt K) (tCons (tVar 3) tNil)) tNil)))))
abbrev n_booked : List Str := ["book", "pair", "there", "rest", "one"]
def t_started (K : PySem.W.Frag) (C : Exs) (E : XK) : TS :=
  (tRet (tTup (tCons (tTup tNil) (tCons (tTup tNil) (tCons (tCB (rTupS K) (tCons (tLc (iRng1 (tCons (tVar 0) tNil)) (gName 1) tYes (tC .non) [1]) tNil)) (tCons (tTup tNil) tNil))))))
abbrev n_started : List Str := ["many", "k"]
def t_half_of (K : PySem.W.Frag) (C : Exs) (E : XK) : TS :=
  (tSeq (tIfS (tTest (tOp (rEqD K) (tOp (rIx K) (tVar 1) (tC (.int 0))) (tC (.str "young"))))
    (tRet (tOp (rIx K) (tVar 0) (tC (.int 0))))
    tNext)
    (tRet (tOp (rIx K) (tVar 0) (tC (.int 1)))))
abbrev n_half_of : List Str := ["heap", "pointer"]
def t_sure_field (K : PySem.W.Frag) (C : Exs) (E : XK) : TS :=
  (tIfS (tNot (tTest (tChain rLeq rLess (tC (.int 0)) (tVar 1) (tCB (rLenS K) (tCons (tOp (rIx K) (tVar 0) (tC (.int 1))) tNil)))))
    (tRaise E (.ref C.nf))
    tNext)
abbrev n_sure_field : List Str := ["thing", "k"]
def t_root_of (K : PySem.W.Frag) (C : Exs) (E : XK) : TS :=
  (tSeq (tIfS (tNot (tTest (tChain rLeq rLess (tC (.int 0)) (tVar 1) (tCB (rLenS K) (tCons (tOp (rIx K) (tVar 0) (tC (.int 2))) tNil)))))
    (tRaise E (.ref C.nr))
    tNext)
    (tRet (tOp (rIx K) (tOp (rIx K) (tVar 0) (tC (.int 2))) (tVar 1))))
abbrev n_root_of : List Str := ["heap", "k"]
def t_law_cell_at (K : PySem.W.Frag) (C : Exs) (E : XK) : TS :=
  (tSeq (tIfS (tTest (tOp rLess (tVar 1) (tCB (rLenS K) (tCons (tVar 0) tNil))))
    (tRet (tOp (rIx K) (tVar 0) (tVar 1)))
    tNext)
    (tRet (tC (.int 0))))
abbrev n_law_cell_at : List Str := ["_law_script", "_law_k"]
def t_law_whole (K : PySem.W.Frag) (C : Exs) (E : XK) : TS :=
  (tRet (tAndV (tCB (rIsi K) (tCons (tVar 0) (tCons (tC (.ty "int")) tNil))) (tNotV (tCB (rIsi K) (tCons (tVar 0) (tCons (tC (.ty "bool")) tNil))))))
abbrev n_law_whole : List Str := ["_law_found"]
def t_law_book_of (K : PySem.W.Frag) (C : Exs) (E : XK) : TS :=
  (tSeq (tAsg (tLst tNil) (gName 1))
    (tSeq (tFor (iRng1 (tCons (tCB (rLenS K) (tCons (tVar 0) tNil)) tNil)) (gName 3)
    (tFor (iRng1 (tCons (tCB (rLenS K) (tCons (tOp (rIx K) (tOp (rIx K) (tVar 0) (tVar 3)) (tC (.int 1))) tNil)) tNil)) (gName 4)
    (tSeq (tAsg (tOp (rIx K) (tOp (rIx K) (tOp (rIx K) (tVar 0) (tVar 3)) (tC (.int 1))) (tVar 4)) (gName 2))
    (tIfS (tAnd (tB (tCB (rIsi K) (tCons (tVar 2) (tCons (tC (.ty "tuple")) tNil)))) (tTest (tOp (rEqD K) (tOp (rIx K) (tVar 2) (tC (.int 0))) (tC (.str "young")))))
    (tDrop (tBM K "list" rAppend (tVar 1) (tCons (tTup (tCons (tVar 3) (tCons (tVar 4) tNil))) tNil)))
    tNext))))
    (tRet (tCB (rTupS K) (tCons (tVar 1) tNil)))))
abbrev n_law_book_of : List Str := ["_law_old", "_law_found", "_law_value", "_law_place", "_law_k"]
def t_law_leads (K : PySem.W.Frag) (C : Exs) (E : XK) : TS :=
  (tSeq (tAsg (tOp (rIx K) (tVar 0) (tC (.int 0))) (gName 2))
    (tSeq (tIfS (tTest (tOp (rEqD K) (tOp (rIx K) (tVar 1) (tC (.int 0))) (tC (.str "old"))))
    (tAsg (tOp (rIx K) (tVar 0) (tC (.int 1))) (gName 2))
    tNext)
    (tRet (tAndV (tOp rLeq (tC (.int 0)) (tOp (rIx K) (tVar 1) (tC (.int 1)))) (tOp rLess (tOp (rIx K) (tVar 1) (tC (.int 1))) (tCB (rLenS K) (tCons (tVar 2) tNil)))))))
abbrev n_law_leads : List Str := ["_law_heap", "_law_pointer", "_law_half"]
def t_law_fields (K : PySem.W.Frag) (C : Exs) (E : XK) : TS :=
  (tSeq (tIfS (tTest (tOp (rEqD K) (tOp (rIx K) (tVar 1) (tC (.int 0))) (tC (.str "young"))))
    (tRet (tOp (rIx K) (tOp (rIx K) (tOp (rIx K) (tVar 0) (tC (.int 0))) (tOp (rIx K) (tVar 1) (tC (.int 1)))) (tC (.int 1))))
    tNext)
    (tRet (tOp (rIx K) (tOp (rIx K) (tOp (rIx K) (tVar 0) (tC (.int 1))) (tOp (rIx K) (tVar 1) (tC (.int 1)))) (tC (.int 1)))))
abbrev n_law_fields : List Str := ["_law_heap", "_law_pointer"]
def t_law_number_by (K : PySem.W.Frag) (C : Exs) (E : XK) : TS :=
  (tSeq (tIfS (tTest (tOp (rEqD K) (tOp (rModu) (tVar 0) (tC (.int 3))) (tC (.int 0))))
    (tRet (tOp (rTimes) (tOp (rModu) (tOp (rFloor) (tVar 0) (tC (.int 3))) (tOp (rMinus) (tOp (rPower) (tC (.int 10)) (tC (.int 60))) (tC (.int 101)))) (tOp (rIx K) (tLst (tCons (tC (.int 1)) (tCons (tUn rNeg (tC (.int 1))) tNil))) (tOp (rModu) (tVar 1) (tC (.int 2))))))
    tNext)
    (tRet (tOp (rMinus) (tOp (rModu) (tOp (rFloor) (tVar 0) (tC (.int 3))) (tC (.int 9))) (tC (.int 4)))))
abbrev n_law_number_by : List Str := ["_law_cell", "_law_turn"]
def t_law_part_by (K : PySem.W.Frag) (C : Exs) (E : XK) : TS :=
  (tSeq (tIfS (tTest (tOp rLess (tVar 0) (tC (.int 2))))
    (tRet (tOp (rIx K) (tLst (tCons (tC .non) (tCons (tVar 1) tNil))) (tVar 0)))
    tNext)
    (tSeq (tIfS (tAnd (tTest (tOp rLess (tVar 0) (tC (.int 11)))) (tTest (tOp rMore (tVar 3) (tC (.int 0)))))
    (tRet (tTup (tCons (tC (.str "root")) (tCons (tOp (rModu) (tOp (rPlus K) (tOp (rMinus) (tVar 0) (tC (.int 2))) (tVar 2)) (tVar 3)) tNil))))
    tNext)
    (tRet (tTup (tCons (tC (.str "root")) (tCons (tOp (rIx K) (tLst (tCons (tUn rNeg (tC (.int 1))) (tCons (tVar 3) (tCons (tUn rNeg (tC (.int 2))) (tCons (tVar 1) tNil))))) (tOp (rModu) (tVar 2) (tC (.int 4)))) tNil))))))
abbrev n_law_part_by : List Str := ["_law_code", "_law_far", "_law_k", "_law_many"]
def t_law_root_by (K : PySem.W.Frag) (C : Exs) (E : XK) : TS :=
  (tSeq (tIfS (tTest (tOp rLess (tVar 0) (tOp (rTimes) (tC (.int 4)) (tVar 1))))
    (tRet (tOp (rModu) (tVar 0) (tVar 1)))
    tNext)
    (tRet (tOp (rIx K) (tLst (tCons (tUn rNeg (tC (.int 1))) (tCons (tVar 1) (tCons (tUn rNeg (tC (.int 2))) (tCons (tOp (rPower) (tC (.int 10)) (tC (.int 30))) tNil))))) (tOp (rMinus) (tVar 0) (tOp (rTimes) (tC (.int 4)) (tVar 1))))))
abbrev n_law_root_by : List Str := ["_law_code", "_law_many"]
def t_law_roots_in (K : PySem.W.Frag) (C : Exs) (E : XK) : TS :=
  (tSeq (tAsg (tLc (iSeq K (tSl (rCut K) (tVar 0) (tPart (tC (.int 2))) tNoPart)) (gName 3) (tOr (tTest (tOp (rEqD K) (tOp (rIx K) (tVar 0) (tC (.int 0))) (tC (.str "set")))) (tTest (tOp (rEqD K) (tOp (rIx K) (tVar 0) (tC (.int 0))) (tC (.str "put"))))) (tVar 3) [3]) (gName 1))
    (tSeq (tIfS (tTest (tOp (rEqD K) (tOp (rIx K) (tVar 0) (tC (.int 0))) (tC (.str "make"))))
    (tAsg (tCB (rListS K) (tCons (tOp (rIx K) (tVar 0) (tC (.int 2))) tNil)) (gName 1))
    tNext)
    (tSeq (tAsg (tLc (iSeq K (tVar 1)) (gName 3) (tB (tCB (rIsi K) (tCons (tVar 3) (tCons (tC (.ty "tuple")) tNil)))) (tOp (rIx K) (tVar 3) (tC (.int 1))) [3]) (gName 2))
    (tSeq (tIfS (tOr (tTest (tOp (rEqD K) (tOp (rIx K) (tVar 0) (tC (.int 0))) (tC (.str "take")))) (tTest (tOp (rEqD K) (tOp (rIx K) (tVar 0) (tC (.int 0))) (tC (.str "same")))))
    (tDrop (tBM K "list" rAppend (tVar 2) (tCons (tOp (rIx K) (tVar 0) (tC (.int 2))) tNil)))
    tNext)
    (tSeq (tIfS (tTest (tOp rMore (tCB (rLenS K) (tCons (tVar 0) tNil)) (tC (.int 1))))
    (tDrop (tBM K "list" rAppend (tVar 2) (tCons (tOp (rIx K) (tVar 0) (tC (.int 1))) tNil)))
    tNext)
    (tRet (tVar 2)))))))
abbrev n_law_roots_in : List Str := ["_law_deed", "_law_parts", "_law_named", "_law_part"]
def t_law_meant (K : PySem.W.Frag) (C : Exs) (E : XK) : TS :=
  (tSeq (tIfS (tB (tCB (rIsi K) (tCons (tVar 0) (tCons (tC (.ty "tuple")) tNil))))
    (tRet (tOp (rIx K) (tVar 1) (tOp (rIx K) (tVar 0) (tC (.int 1)))))
    tNext)
    (tRet (tVar 0)))
abbrev n_law_meant : List Str := ["_law_part", "_law_roots"]
def t_law_asked (K : PySem.W.Frag) (C : Exs) (E : XK) : TS :=
  (tSeq (tAsg (tOp (rIx K) (tVar 1) (tOp (rIx K) (tVar 0) (tC (.int 1)))) (gName 3))
    (tSeq (tIfS (tTest (tOp (rEqD K) (tOp (rIx K) (tVar 0) (tC (.int 0))) (tC (.str "same"))))
    (tRet (tAndV (tCB (rIsi K) (tCons (tVar 3) (tCons (tC (.ty "tuple")) tNil))) (tOp (rEqD K) (tVar 3) (tOp (rIx K) (tVar 1) (tOp (rIx K) (tVar 0) (tC (.int 2)))))))
    tNext)
    (tSeq (tIfS (tB (tCB (rIsi K) (tCons (tVar 3) (tCons (tC (.ty "tuple")) tNil))))
    (tRet (tTup (tCons (tC (.str "thing")) (tCons (tCB (rLenS K) (tCons (tOp (rIx K) (tVar 2) (tOp (rIx K) (tVar 3) (tC (.int 1)))) tNil)) tNil))))
    tNext)
    (tRet (tVar 3)))))
abbrev n_law_asked : List Str := ["_law_deed", "_law_roots", "_law_things", "_law_held"]
def t_law_room_by (K : PySem.W.Frag) (C : Exs) (E : XK) : TS :=
  (tSeq (tIfS (tTest (tOp (rEqD K) (tOp (rModu) (tVar 0) (tC (.int 4))) (tC (.int 0))))
    (tRet (tOp (rModu) (tOp (rFloor) (tVar 0) (tC (.int 4))) (tC (.int 4))))
    tNext)
    (tSeq (tIfS (tTest (tOp (rEqD K) (tOp (rModu) (tVar 0) (tC (.int 4))) (tC (.int 1))))
    (tRet (tOp (rPlus K) (tC (.int 4)) (tOp (rModu) (tOp (rFloor) (tVar 0) (tC (.int 4))) (tC (.int 20)))))
    tNext)
    (tSeq (tIfS (tTest (tOp (rEqD K) (tOp (rModu) (tVar 0) (tC (.int 4))) (tC (.int 2))))
    (tRet (tOp (rModu) (tOp (rModu) (tOp (rTimes) (tVar 0) (tC (.int 69621))) (tC (.int 2147483647))) (tC (.int 160))))
    tNext)
    (tRet (tOp (rModu) (tVar 0) (tOp (rPower) (tC (.int 10)) (tC (.int 60))))))))
abbrev n_law_room_by : List Str := ["_law_cell"]
def t_leads_young (K : PySem.W.Frag) (C : Exs) (E : XK) : TS :=
  (tRet (tAndV (tCall (spOf K (fs_is_pointer C)) [] E0 (tCons (tVar 0) tNil)) (tOp (rEqD K) (tOp (rIx K) (tVar 0) (tC (.int 0))) (tC (.str "young")))))
abbrev n_leads_young : List Str := ["value"]
def t_moved (K : PySem.W.Frag) (C : Exs) (E : XK) : TS :=
  (tSeq (tIfS (tB (tCall (spOf K (fs_is_pointer C)) [] E0 (tCons (tVar 0) tNil)))
    (tRet (tDGetA (tVar 1) (tVar 0) (tVar 0)))
    tNext)
    (tRet (tVar 0)))
abbrev n_moved : List Str := ["value", "places"]
def t_leads (K : PySem.W.Frag) (C : Exs) (E : XK) : TS :=
  (tRet (tChain rLeq rLess (tC (.int 0)) (tOp (rIx K) (tVar 1) (tC (.int 1))) (tCB (rLenS K) (tCons (tCall (spOf K (fs_half_of C)) [] E0 (tCons (tVar 0) (tCons (tVar 1) tNil))) tNil))))
abbrev n_leads : List Str := ["heap", "pointer"]
def t_meet_all (K : PySem.W.Frag) (C : Exs) (E : XK) : TS :=
  (tFor (iSeq K (tVar 0)) (gName 3)
    (tIfS (tAnd (tB (tCall (spOf K (fs_is_pointer C)) [] E0 (tCons (tVar 3) tNil))) (tB (tDNotIn (tVar 3) (tVar 1))))
    (tSeq (sDPut (tVar 1) (tVar 3) (tC (.bl true)))
    (tDrop (tBM K "list" rAppend (tVar 2) (tCons (tVar 3) tNil))))
    tNext))
abbrev n_meet_all : List Str := ["row", "seen", "waiting", "value"]
def t_part_of (K : PySem.W.Frag) (C : Exs) (E : XK) : TS :=
  (tSeq (tIfS (tB (tCall (spOf K (fs_is_pointer C)) [] E0 (tCons (tVar 1) tNil)))
    (tRet (tCall (spOf K (fs_root_of C)) [] E (tCons (tVar 0) (tCons (tOp (rIx K) (tVar 1) (tC (.int 1))) tNil))))
    tNext)
    (tRet (tVar 1)))
abbrev n_part_of : List Str := ["heap", "part"]
def t_law_alike (K : PySem.W.Frag) (C : Exs) (E : XK) : TS :=
  (tSeq (tIfS (tTest (tOp rIsN (tVar 1) (tC .non)))
    (tRet (tOp rIsN (tVar 0) (tC .non)))
    tNext)
    (tSeq (tIfS (tNot (tB (tCB (rIsi K) (tCons (tVar 1) (tCons (tC (.ty "tuple")) tNil)))))
    (tRet (tAndV (tCall (spOf K (fs_law_whole C)) [] E0 (tCons (tVar 0) tNil)) (tOp (rEqD K) (tVar 0) (tVar 1))))
    tNext)
    (tSeq (tIfS (tOr (tNot (tB (tCB (rIsi K) (tCons (tVar 0) (tCons (tC (.ty "tuple")) tNil))))) (tOr (tTest (tOp (rNeD K) (tCB (rLenS K) (tCons (tVar 0) tNil)) (tC (.int 2)))) (tNot (tB (tCB (rIsi K) (tCons (tOp (rIx K) (tVar 0) (tC (.int 0))) (tCons (tC (.ty "str")) tNil)))))))
    (tRet (tC (.bl false)))
    tNext)
    (tRet (tAndV (tCall (spOf K (fs_law_whole C)) [] E0 (tCons (tOp (rIx K) (tVar 0) (tC (.int 1))) tNil)) (tOp (rEqD K) (tVar 0) (tVar 1)))))))
abbrev n_law_alike : List Str := ["_law_found", "_law_due"]
def t_law_book_alike (K : PySem.W.Frag) (C : Exs) (E : XK) : TS :=
  (tSeq (tIfS (tOr (tNot (tB (tCB (rIsi K) (tCons (tVar 0) (tCons (tC (.ty "tuple")) tNil))))) (tTest (tOp (rNeD K) (tCB (rLenS K) (tCons (tVar 0) tNil)) (tCB (rLenS K) (tCons (tVar 1) tNil)))))
    (tRet (tC (.bl false)))
    tNext)
    (tSeq (tFor (iRng1 (tCons (tCB (rLenS K) (tCons (tVar 1) tNil)) tNil)) (gName 2)
    (tSeq (tIfS (tOr (tNot (tB (tCB (rIsi K) (tCons (tOp (rIx K) (tVar 0) (tVar 2)) (tCons (tC (.ty "tuple")) tNil))))) (tTest (tOp (rNeD K) (tCB (rLenS K) (tCons (tOp (rIx K) (tVar 0) (tVar 2)) tNil)) (tC (.int 2)))))
    (tRet (tC (.bl false)))
    tNext)
    (tSeq (tIfS (tOr (tNot (tB (tCall (spOf K (fs_law_whole C)) [] E0 (tCons (tOp (rIx K) (tOp (rIx K) (tVar 0) (tVar 2)) (tC (.int 0))) tNil)))) (tNot (tB (tCall (spOf K (fs_law_whole C)) [] E0 (tCons (tOp (rIx K) (tOp (rIx K) (tVar 0) (tVar 2)) (tC (.int 1))) tNil)))))
    (tRet (tC (.bl false)))
    tNext)
    (tIfS (tTest (tOp (rNeD K) (tOp (rIx K) (tVar 0) (tVar 2)) (tOp (rIx K) (tVar 1) (tVar 2))))
    (tRet (tC (.bl false)))
    tNext))))
    (tRet (tC (.bl true)))))
abbrev n_law_book_alike : List Str := ["_law_found", "_law_due", "_law_k"]
def t_law_right (K : PySem.W.Frag) (C : Exs) (E : XK) : TS :=
  (tSeq (tIfS (tOr (tNot (tB (tCB (rIsi K) (tCons (tVar 0) (tCons (tC (.ty "tuple")) tNil))))) (tTest (tOp (rNeD K) (tCB (rLenS K) (tCons (tVar 0) tNil)) (tC (.int 4)))))
    (tRet (tC (.bl false)))
    tNext)
    (tSeq (tFor (iSeq K (tVar 0)) (gName 1)
    (tIfS (tNot (tB (tCB (rIsi K) (tCons (tVar 1) (tCons (tC (.ty "tuple")) tNil)))))
    (tRet (tC (.bl false)))
    tNext))
    (tSeq (tFor (iSeq K (tLst (tCons (tOp (rIx K) (tVar 0) (tC (.int 0))) (tCons (tOp (rIx K) (tVar 0) (tC (.int 1))) tNil)))) (gName 2)
    (tFor (iSeq K (tVar 2)) (gName 3)
    (tSeq (tIfS (tOr (tNot (tB (tCB (rIsi K) (tCons (tVar 3) (tCons (tC (.ty "tuple")) tNil))))) (tTest (tOp (rNeD K) (tCB (rLenS K) (tCons (tVar 3) tNil)) (tC (.int 2)))))
    (tRet (tC (.bl false)))
    tNext)
    (tIfS (tOr (tNot (tB (tCall (spOf K (fs_law_whole C)) [] E0 (tCons (tOp (rIx K) (tVar 3) (tC (.int 0))) tNil)))) (tNot (tB (tCB (rIsi K) (tCons (tOp (rIx K) (tVar 3) (tC (.int 1))) (tCons (tC (.ty "tuple")) tNil))))))
    (tRet (tC (.bl false)))
    tNext))))
    (tRet (tC (.bl true))))))
abbrev n_law_right : List Str := ["_law_after", "_law_part", "_law_half", "_law_thing"]
def t_law_make_parts (K : PySem.W.Frag) (C : Exs) (E : XK) : TS :=
  (tSeq (tAsg (tLst tNil) (gName 5))
    (tSeq (tFor (iRng1 (tCons (tVar 4) tNil)) (gName 8)
    (tSeq (tAsg (tOp (rModu) (tOp (rTimes) (tOp (rPlus K) (tVar 0) (tOp (rTimes) (tC (.int 104729)) (tVar 8))) (tC (.int 48271))) (tC (.int 2147483629))) (gName 6))
    (tSeq (tAsg (tOp (rModu) (tOp (rTimes) (tVar 6) (tVar 6)) (tC (.int 2147483629))) (gName 6))
    (tSeq (tAsg (tCall (spOf K (fs_law_part_by C)) [] E0 (tCons (tOp (rModu) (tVar 6) (tC (.int 11))) (tCons (tOp (rPlus K) (tVar 1) (tVar 8)) (tCons (tVar 2) (tCons (tVar 3) tNil))))) (gName 7))
    (tSeq (tIfS (tAnd (tB (tCB (rIsi K) (tCons (tVar 7) (tCons (tC (.ty "tuple")) tNil)))) (tAnd (tTest (tOp rMore (tVar 3) (tC (.int 0)))) (tTest (tOp (rEqD K) (tOp (rModu) (tOp (rFloor) (tVar 6) (tC (.int 11))) (tC (.int 2))) (tC (.int 1))))))
    (tAsg (tTup (tCons (tC (.str "root")) (tCons (tOp (rModu) (tOp (rFloor) (tVar 6) (tC (.int 22))) (tVar 3)) tNil))) (gName 7))
    tNext)
    (tSeq (tIfS (tAnd (tTest (tOp (rEqD K) (tOp (rModu) (tOp (rFloor) (tVar 0) (tC (.int 13))) (tC (.int 8))) (tC (.int 1)))) (tTest (tOp (rEqD K) (tVar 8) (tOp (rModu) (tOp (rFloor) (tVar 0) (tC (.int 104))) (tVar 4)))))
    (tAsg (tCall (spOf K (fs_law_part_by C)) [] E0 (tCons (tC (.int 11)) (tCons (tVar 1) (tCons (tVar 2) (tCons (tVar 3) tNil))))) (gName 7))
    tNext)
    (tDrop (tBM K "list" rAppend (tVar 5) (tCons (tVar 7) tNil)))))))))
    (tRet (tCB (rTupS K) (tCons (tVar 5) tNil)))))
abbrev n_law_make_parts : List Str := ["_law_rest", "_law_far", "_law_k", "_law_many", "_law_size", "_law_found", "_law_mix", "_law_part", "_law_i"]
def t_law_answer (K : PySem.W.Frag) (C : Exs) (E : XK) : TS :=
  (tSeq (tFor (iSeq K (tCall (spOf K (fs_law_roots_in C)) [] E0 (tCons (tVar 0) tNil))) (gName 5)
    (tIfS (tOr (tTest (tOp rLess (tVar 5) (tC (.int 0)))) (tTest (tOp rGeq (tVar 5) (tCB (rLenS K) (tCons (tVar 1) tNil)))))
    (tRet (tC (.str "no root")))
    tNext))
    (tSeq (tIfS (tOr (tTest (tOp (rEqD K) (tOp (rIx K) (tVar 0) (tC (.int 0))) (tC (.str "look")))) (tTest (tOp (rEqD K) (tOp (rIx K) (tVar 0) (tC (.int 0))) (tC (.str "same")))))
    (tRet (tCall (spOf K (fs_law_asked C)) [] E0 (tCons (tVar 0) (tCons (tVar 1) (tCons (tVar 2) tNil)))))
    tNext)
    (tSeq (tIfS (tTest (tOp (rEqD K) (tOp (rIx K) (tVar 0) (tC (.int 0))) (tC (.str "make"))))
    (tSeq (tDrop (tBM K "list" rAppend (tVar 2) (tCons (tLc (iSeq K (tOp (rIx K) (tVar 0) (tC (.int 2)))) (gName 6) tYes (tCall (spOf K (fs_law_meant C)) [] E0 (tCons (tVar 6) (tCons (tVar 1) tNil))) [6]) tNil)))
    (tAsg (tTup (tCons (tC (.str "thing")) (tCons (tOp (rMinus) (tCB (rLenS K) (tCons (tVar 2) tNil)) (tC (.int 1))) tNil))) (gSub (tVar 1) (tOp (rIx K) (tVar 0) (tC (.int 1))) rSetL)))
    tNext)
    (tSeq (tIfS (tTest (tOp (rEqD K) (tOp (rIx K) (tVar 0) (tC (.int 0))) (tC (.str "set"))))
    (tAsg (tCall (spOf K (fs_law_meant C)) [] E0 (tCons (tOp (rIx K) (tVar 0) (tC (.int 2))) (tCons (tVar 1) tNil))) (gSub (tVar 1) (tOp (rIx K) (tVar 0) (tC (.int 1))) rSetL))
    tNext)
    (tSeq (tIfS (tOr (tTest (tOp (rEqD K) (tOp (rIx K) (tVar 0) (tC (.int 0))) (tC (.str "put")))) (tTest (tOp (rEqD K) (tOp (rIx K) (tVar 0) (tC (.int 0))) (tC (.str "take")))))
    (tSeq (tAsg (tOp (rIx K) (tVar 1) (tOp (rIx K) (tVar 0) (tOp (rPlus K) (tC (.int 1)) (tCB rInt (tCons (tOp (rEqD K) (tOp (rIx K) (tVar 0) (tC (.int 0))) (tC (.str "take"))) tNil))))) (gName 3))
    (tSeq (tAsg (tOp (rIx K) (tVar 0) (tOp (rPlus K) (tC (.int 2)) (tCB rInt (tCons (tOp (rEqD K) (tOp (rIx K) (tVar 0) (tC (.int 0))) (tC (.str "take"))) tNil)))) (gName 4))
    (tSeq (tIfS (tNot (tB (tCB (rIsi K) (tCons (tVar 3) (tCons (tC (.ty "tuple")) tNil)))))
    (tRet (tC (.str "no thing")))
    tNext)
    (tSeq (tIfS (tOr (tTest (tOp rLess (tVar 4) (tC (.int 0)))) (tTest (tOp rGeq (tVar 4) (tCB (rLenS K) (tCons (tOp (rIx K) (tVar 2) (tOp (rIx K) (tVar 3) (tC (.int 1)))) tNil)))))
    (tRet (tC (.str "no field")))
    tNext)
    (tIfS (tTest (tOp (rEqD K) (tOp (rIx K) (tVar 0) (tC (.int 0))) (tC (.str "put"))))
    (tAsg (tCall (spOf K (fs_law_meant C)) [] E0 (tCons (tOp (rIx K) (tVar 0) (tC (.int 3))) (tCons (tVar 1) tNil))) (gSub (tOp (rIx K) (tVar 2) (tOp (rIx K) (tVar 3) (tC (.int 1)))) (tVar 4) rSetL))
    (tAsg (tOp (rIx K) (tOp (rIx K) (tVar 2) (tOp (rIx K) (tVar 3) (tC (.int 1)))) (tVar 4)) (gSub (tVar 1) (tOp (rIx K) (tVar 0) (tC (.int 1))) rSetL)))))))
    tNext)
    (tRet (tC (.str "done"))))))))
abbrev n_law_answer : List Str := ["_law_deed", "_law_roots", "_law_things", "_law_held", "_law_f", "_law_k", "_law_part"]
def t_moved_row (K : PySem.W.Frag) (C : Exs) (E : XK) : TS :=
  (tRet (tCB (rTupS K) (tCons (tLc (iSeq K (tVar 0)) (gName 2) tYes (tCall (spOf K (fs_moved C)) [] E0 (tCons (tVar 2) (tCons (tVar 1) tNil))) [2]) tNil)))
abbrev n_moved_row : List Str := ["row", "places", "value"]
def t_pairs_of (K : PySem.W.Frag) (C : Exs) (E : XK) : TS :=
  (tRet (tLc (iRng1 (tCons (tCB (rLenS K) (tCons (tVar 1) tNil)) tNil)) (gName 2) (tB (tCall (spOf K (fs_leads_young C)) [] E0 (tCons (tOp (rIx K) (tVar 1) (tVar 2)) tNil))) (tTup (tCons (tVar 0) (tCons (tVar 2) tNil))) [2]))
abbrev n_pairs_of : List Str := ["place", "fields", "k"]
def t_all_lead (K : PySem.W.Frag) (C : Exs) (E : XK) : TS :=
  (tSeq (tFor (iSeq K (tVar 1)) (gName 2)
    (tIfS (tAnd (tB (tCall (spOf K (fs_is_pointer C)) [] E0 (tCons (tVar 2) tNil))) (tNot (tB (tCall (spOf K (fs_leads C)) [] E0 (tCons (tVar 0) (tCons (tVar 2) tNil))))))
    (tRet (tC (.bl false)))
    tNext))
    (tRet (tC (.bl true))))
abbrev n_all_lead : List Str := ["heap", "row", "value"]
def t_thing_at (K : PySem.W.Frag) (C : Exs) (E : XK) : TS :=
  (tSeq (tIfS (tOr (tNot (tB (tCall (spOf K (fs_is_pointer C)) [] E0 (tCons (tVar 1) tNil)))) (tNot (tB (tCall (spOf K (fs_leads C)) [] E0 (tCons (tVar 0) (tCons (tVar 1) tNil))))))
    (tRaise E (.ref C.nt))
    tNext)
    (tRet (tOp (rIx K) (tCall (spOf K (fs_half_of C)) [] E0 (tCons (tVar 0) (tCons (tVar 1) tNil))) (tOp (rIx K) (tVar 1) (tC (.int 1))))))
abbrev n_thing_at : List Str := ["heap", "pointer"]
def t_come_in_turn (K : PySem.W.Frag) (C : Exs) (E : XK) : TS :=
  (tSeq (tAsg tDNewT (gName 1))
    (tSeq (tAsg (tLst tNil) (gName 2))
    (tSeq (tDrop (tCall (spOf K (fs_meet_all C)) [] E0 (tCons (tOp (rIx K) (tVar 0) (tC (.int 2))) (tCons (tVar 1) (tCons (tVar 2) tNil)))))
    (tSeq (tAsg (tC (.int 0)) (gName 3))
    (tSeq (tWhile (tTest (tOp rLess (tVar 3) (tCB (rLenS K) (tCons (tVar 2) tNil))))
    (tSeq (tAsg (tOp (rIx K) (tVar 2) (tVar 3)) (gName 4))
    (tSeq (tDrop (tCall (spOf K (fs_meet_all C)) [] E0 (tCons (tOp (rIx K) (tOp (rIx K) (tCall (spOf K (fs_half_of C)) [] E0 (tCons (tVar 0) (tCons (tVar 4) tNil))) (tOp (rIx K) (tVar 4) (tC (.int 1)))) (tC (.int 1))) (tCons (tVar 1) (tCons (tVar 2) tNil)))))
    (tAsg (tOp (rPlus K) (tVar 3) (tC (.int 1))) (gName 3)))))
    (tRet (tVar 2)))))))
abbrev n_come_in_turn : List Str := ["heap", "seen", "waiting", "at", "pointer"]
def t_meet (K : PySem.W.Frag) (C : Exs) (E : XK) : TS :=
  (tFor (iSeq K (tVar 0)) (gName 3)
    (tIfS (tAnd (tB (tCall (spOf K (fs_leads_young C)) [] E0 (tCons (tVar 3) tNil))) (tB (tDNotIn (tOp (rIx K) (tVar 3) (tC (.int 1))) (tVar 1))))
    (tSeq (sDPut (tVar 1) (tOp (rIx K) (tVar 3) (tC (.int 1))) (tC (.bl true)))
    (tDrop (tBM K "list" rAppend (tVar 2) (tCons (tOp (rIx K) (tVar 3) (tC (.int 1))) tNil))))
    tNext))
abbrev n_meet : List Str := ["row", "seen", "waiting", "value"]
def t_law_matched (K : PySem.W.Frag) (C : Exs) (E : XK) : TS :=
  (tSeq (tIfS (tNot (tB (tCB (rIsi K) (tCons (tVar 0) (tCons (tC (.ty "tuple")) tNil)))))
    (tRet (tCall (spOf K (fs_law_alike C)) [] E0 (tCons (tVar 1) (tCons (tVar 0) tNil))))
    tNext)
    (tSeq (tIfS (tB (tDIn (tVar 0) (tVar 2)))
    (tRet (tCall (spOf K (fs_law_alike C)) [] E0 (tCons (tVar 1) (tCons (tDGet (tVar 2) (tVar 0)) tNil))))
    tNext)
    (tSeq (tIfS (tOr (tNot (tB (tCB (rIsi K) (tCons (tVar 1) (tCons (tC (.ty "tuple")) tNil))))) (tOr (tTest (tOp (rNeD K) (tCB (rLenS K) (tCons (tVar 1) tNil)) (tC (.int 2)))) (tOr (tNot (tB (tCB (rIsi K) (tCons (tOp (rIx K) (tVar 1) (tC (.int 0))) (tCons (tC (.ty "str")) tNil))))) (tNot (tB (tCall (spOf K (fs_law_whole C)) [] E0 (tCons (tOp (rIx K) (tVar 1) (tC (.int 1))) tNil)))))))
    (tRet (tC (.bl false)))
    tNext)
    (tSeq (tIfS (tOr (tTest (tOp (rIn K true) (tOp (rIx K) (tVar 1) (tC (.int 0))) (tLst (tCons (tC (.str "young")) (tCons (tC (.str "old")) tNil))))) (tB (tDIn (tVar 1) (tVar 3))))
    (tRet (tC (.bl false)))
    tNext)
    (tSeq (sDPut (tVar 2) (tVar 0) (tVar 1))
    (tSeq (sDPut (tVar 3) (tVar 1) (tC (.bl true)))
    (tSeq (tDrop (tBM K "list" rAppend (tVar 4) (tCons (tVar 0) tNil)))
    (tRet (tC (.bl true))))))))))
abbrev n_law_matched : List Str := ["_law_one", "_law_two", "_law_there", "_law_back", "_law_todo"]
def t_law_deed_by (K : PySem.W.Frag) (C : Exs) (E : XK) : TS :=
  (tSeq (tAsg (tOp (rModu) (tOp (rTimes) (tVar 0) (tC (.int 69621))) (tC (.int 2147483647))) (gName 3))
    (tSeq (tAsg (tOp (rModu) (tVar 0) (tC (.int 18))) (gName 4))
    (tSeq (tAsg (tOp (rPlus K) (tOp (rTimes) (tC (.int 4)) (tVar 2)) (tC (.int 4))) (gName 5))
    (tSeq (tAsg (tCall (spOf K (fs_law_root_by C)) [] E0 (tCons (tOp (rModu) (tOp (rFloor) (tVar 0) (tC (.int 18))) (tVar 5)) (tCons (tVar 2) tNil))) (gName 6))
    (tSeq (tAsg (tOp (rFloor) (tOp (rFloor) (tVar 0) (tC (.int 18))) (tVar 5)) (gName 0))
    (tSeq (tAsg (tCall (spOf K (fs_law_root_by C)) [] E0 (tCons (tOp (rModu) (tVar 0) (tVar 5)) (tCons (tVar 2) tNil))) (gName 7))
    (tSeq (tAsg (tOp (rModu) (tOp (rFloor) (tOp (rFloor) (tVar 0) (tVar 5)) (tC (.int 12))) (tC (.int 101))) (gName 8))
    (tSeq (tAsg (tOp (rIx K) (tLst (tCons (tC (.int 0)) (tCons (tC (.int 1)) (tCons (tC (.int 2)) (tCons (tC (.int 0)) (tCons (tC (.int 1)) (tCons (tUn rNeg (tC (.int 1))) (tCons (tC (.int 3)) (tCons (tVar 8) (tCons (tVar 8) (tCons (tUn rNeg (tC (.int 2))) (tCons (tVar 1) (tCons (tOp (rMinus) (tUn rNeg (tC (.int 1))) (tCB rAbs (tCons (tVar 1) tNil))) tNil))))))))))))) (tOp (rModu) (tOp (rFloor) (tVar 0) (tVar 5)) (tC (.int 12)))) (gName 9))
    (tSeq (tAsg (tCall (spOf K (fs_law_part_by C)) [] E0 (tCons (tOp (rModu) (tVar 3) (tC (.int 12))) (tCons (tVar 1) (tCons (tVar 6) (tCons (tVar 2) tNil))))) (gName 10))
    (tSeq (tIfS (tAnd (tB (tCB (rIsi K) (tCons (tVar 10) (tCons (tC (.ty "tuple")) tNil)))) (tAnd (tTest (tOp rMore (tVar 2) (tC (.int 0)))) (tAnd (tTest (tOp rLess (tOp (rModu) (tVar 3) (tC (.int 12))) (tC (.int 11)))) (tTest (tOp (rEqD K) (tOp (rModu) (tOp (rFloor) (tVar 3) (tC (.int 12))) (tC (.int 2))) (tC (.int 1)))))))
    (tAsg (tTup (tCons (tC (.str "root")) (tCons (tOp (rModu) (tOp (rFloor) (tVar 3) (tC (.int 24))) (tVar 2)) tNil))) (gName 10))
    tNext)
    (tSeq (tIfS (tTest (tOp rLess (tVar 4) (tC (.int 5))))
    (tSeq (tAsg (tOp (rModu) (tVar 3) (tC (.int 7))) (gName 12))
    (tSeq (tIfS (tTest (tOp (rEqD K) (tOp (rModu) (tOp (rFloor) (tVar 3) (tC (.int 7))) (tC (.int 40))) (tC (.int 7))))
    (tAsg (tOp (rModu) (tOp (rFloor) (tVar 3) (tC (.int 280))) (tC (.int 101))) (gName 12))
    tNext)
    (tRet (tTup (tCons (tC (.str "make")) (tCons (tVar 6) (tCons (tCall (spOf K (fs_law_make_parts C)) [] E0 (tCons (tVar 3) (tCons (tVar 1) (tCons (tVar 6) (tCons (tVar 2) (tCons (tVar 12) tNil)))))) tNil)))))))
    tNext)
    (tSeq (tIfS (tTest (tOp rLess (tVar 4) (tC (.int 10))))
    (tRet (tTup (tCons (tC (.str "put")) (tCons (tVar 6) (tCons (tVar 9) (tCons (tVar 10) tNil))))))
    tNext)
    (tSeq (tAsg (tLst (tCons (tTup (tCons (tC (.str "set")) (tCons (tVar 6) (tCons (tVar 10) tNil)))) (tCons (tTup (tCons (tC (.str "take")) (tCons (tVar 6) (tCons (tVar 7) (tCons (tVar 9) tNil))))) (tCons (tTup (tCons (tC (.str "look")) (tCons (tVar 6) tNil))) (tCons (tTup (tCons (tC (.str "look")) (tCons (tVar 7) tNil))) (tCons (tTup (tCons (tC (.str "same")) (tCons (tVar 6) (tCons (tVar 7) tNil)))) tNil)))))) (gName 11))
    (tSeq (tAsg (tOp (rPlus K) (tVar 11) (tLst (tCons (tTup (tCons (tC (.str "minor")) tNil)) (tCons (tTup (tCons (tC (.str "minor")) tNil)) (tCons (tTup (tCons (tC (.str "major")) tNil)) tNil))))) (gName 11))
    (tRet (tOp (rIx K) (tVar 11) (tOp (rMinus) (tVar 4) (tC (.int 10)))))))))))))))))))
abbrev n_law_deed_by : List Str := ["_law_number", "_law_far", "_law_many", "_law_rest", "_law_kind", "_law_shares", "_law_k", "_law_j", "_law_wide", "_law_f", "_law_part", "_law_some", "_law_size"]
def t_law_told (K : PySem.W.Frag) (C : Exs) (E : XK) : TS :=
  (tSeq (tIfS (tOr (tB (tCB (rIsi K) (tCons (tVar 1) (tCons (tC (.ty "str")) tNil)))) (tB (tCB (rIsi K) (tCons (tVar 1) (tCons (tC (.ty "bool")) tNil)))))
    (tRet (tAndV (tOp (rEqD K) (tCB (rIsi K) (tCons (tVar 0) (tCons (tC (.ty "bool")) tNil))) (tCB (rIsi K) (tCons (tVar 1) (tCons (tC (.ty "bool")) tNil)))) (tAndV (tNotV (tCB (rIsi K) (tCons (tVar 0) (tCons (tC (.ty "tuple")) tNil)))) (tOp (rEqD K) (tVar 0) (tVar 1)))))
    tNext)
    (tRet (tCall (spOf K (fs_law_alike C)) [] E0 (tCons (tVar 0) (tCons (tVar 1) tNil)))))
abbrev n_law_told : List Str := ["_law_found", "_law_due"]
def t_book_of (K : PySem.W.Frag) (C : Exs) (E : XK) : TS :=
  (tSeq (tAsg (tLst tNil) (gName 1))
    (tSeq (tFor (iRng1 (tCons (tCB (rLenS K) (tCons (tVar 0) tNil)) tNil)) (gName 2)
    (tDrop (tBM K "list" rExtend (tVar 1) (tCons (tCall (spOf K (fs_pairs_of C)) [] E0 (tCons (tVar 2) (tCons (tOp (rIx K) (tOp (rIx K) (tVar 0) (tVar 2)) (tC (.int 1))) tNil))) tNil))))
    (tRet (tCB (rTupS K) (tCons (tVar 1) tNil)))))
abbrev n_book_of : List Str := ["old", "found", "place"]
def t_sure_values (K : PySem.W.Frag) (C : Exs) (E : XK) : TS :=
  (tIfS (tNot (tB (tCall (spOf K (fs_all_lead C)) [] E0 (tCons (tVar 0) (tCons (tVar 1) tNil)))))
    (tRaise E (.ref C.nt))
    tNext)
abbrev n_sure_values : List Str := ["heap", "row"]
def t_field (K : PySem.W.Frag) (C : Exs) (E : XK) : TS :=
  (tSeq (tAsg (tCall (spOf K (fs_thing_at C)) [] E (tCons (tVar 0) (tCons (tVar 1) tNil))) (gName 3))
    (tSeq (tDrop (tCall (spOf K (fs_sure_field C)) [] E (tCons (tVar 3) (tCons (tVar 2) tNil))))
    (tRet (tOp (rIx K) (tOp (rIx K) (tVar 3) (tC (.int 1))) (tVar 2)))))
abbrev n_field : List Str := ["heap", "pointer", "k", "thing"]
def t_come_both (K : PySem.W.Frag) (C : Exs) (E : XK) : TS :=
  (tSeq (tAsg (tCall (spOf K (fs_come_in_turn C)) [] E0 (tCons (tVar 0) tNil)) (gName 1))
    (tSeq (tAsg (tCB (rSrt K) (tCons (tLc (iSeq K (tVar 1)) (gName 4) (tTest (tOp (rEqD K) (tOp (rIx K) (tVar 4) (tC (.int 0))) (tC (.str "young")))) (tOp (rIx K) (tVar 4) (tC (.int 1))) [4]) tNil)) (gName 2))
    (tSeq (tAsg (tCB (rSrt K) (tCons (tLc (iSeq K (tVar 1)) (gName 4) (tTest (tOp (rEqD K) (tOp (rIx K) (tVar 4) (tC (.int 0))) (tC (.str "old")))) (tOp (rIx K) (tVar 4) (tC (.int 1))) [4]) tNil)) (gName 3))
    (tRet (tTup (tCons (tCB (rTupS K) (tCons (tVar 2) tNil)) (tCons (tCB (rTupS K) (tCons (tVar 3) tNil)) tNil)))))))
abbrev n_come_both : List Str := ["heap", "met", "young", "old", "pointer"]
def t_half_behind (K : PySem.W.Frag) (C : Exs) (E : XK) : TS :=
  (tRet (tCB (rTupS K) (tCons (tLc (iSeq K (tVar 1)) (gName 3) tYes (tTup (tCons (tOp (rIx K) (tOp (rIx K) (tVar 0) (tVar 3)) (tC (.int 0))) (tCons (tCall (spOf K (fs_moved_row C)) [] E0 (tCons (tOp (rIx K) (tOp (rIx K) (tVar 0) (tVar 3)) (tC (.int 1))) (tCons (tVar 2) tNil))) tNil))) [3]) tNil)))
abbrev n_half_behind : List Str := ["half", "kept", "places", "place"]
def t_come_young (K : PySem.W.Frag) (C : Exs) (E : XK) : TS :=
  (tSeq (tAsg tDNewK (gName 1))
    (tSeq (tAsg (tLst tNil) (gName 2))
    (tSeq (tDrop (tCall (spOf K (fs_meet C)) [] E0 (tCons (tOp (rIx K) (tVar 0) (tC (.int 2))) (tCons (tVar 1) (tCons (tVar 2) tNil)))))
    (tSeq (tFor (iSeq K (tOp (rIx K) (tVar 0) (tC (.int 3)))) (gName 4)
    (tDrop (tCall (spOf K (fs_meet C)) [] E0 (tCons (tLst (tCons (tOp (rIx K) (tOp (rIx K) (tOp (rIx K) (tOp (rIx K) (tVar 0) (tC (.int 1))) (tOp (rIx K) (tVar 4) (tC (.int 0)))) (tC (.int 1))) (tOp (rIx K) (tVar 4) (tC (.int 1)))) tNil)) (tCons (tVar 1) (tCons (tVar 2) tNil))))))
    (tSeq (tAsg (tC (.int 0)) (gName 3))
    (tSeq (tWhile (tTest (tOp rLess (tVar 3) (tCB (rLenS K) (tCons (tVar 2) tNil))))
    (tSeq (tDrop (tCall (spOf K (fs_meet C)) [] E0 (tCons (tOp (rIx K) (tOp (rIx K) (tOp (rIx K) (tVar 0) (tC (.int 0))) (tOp (rIx K) (tVar 2) (tVar 3))) (tC (.int 1))) (tCons (tVar 1) (tCons (tVar 2) tNil)))))
    (tAsg (tOp (rPlus K) (tVar 3) (tC (.int 1))) (gName 3))))
    (tRet (tCB (rTupS K) (tCons (tCB (rSrt K) (tCons (tVar 2) tNil)) tNil)))))))))
abbrev n_come_young : List Str := ["heap", "seen", "waiting", "at", "pair"]
def t_old_behind (K : PySem.W.Frag) (C : Exs) (E : XK) : TS :=
  (tSeq (tAsg (tCB (rListS K) (tCons (tOp (rIx K) (tVar 0) (tC (.int 1))) tNil)) (gName 2))
    (tSeq (tFor (iSeq K (tOp (rIx K) (tVar 0) (tC (.int 3)))) (gName 4)
    (tSeq (tAsg (tOp (rIx K) (tOp (rIx K) (tVar 0) (tC (.int 1))) (tOp (rIx K) (tVar 4) (tC (.int 0)))) (gName 3))
    (tAsg (tTup (tCons (tOp (rIx K) (tVar 3) (tC (.int 0))) (tCons (tCall (spOf K (fs_moved_row C)) [] E0 (tCons (tOp (rIx K) (tVar 3) (tC (.int 1))) (tCons (tVar 1) tNil))) tNil))) (gSub (tVar 2) (tOp (rIx K) (tVar 4) (tC (.int 0))) rSetL))))
    (tRet (tVar 2))))
abbrev n_old_behind : List Str := ["heap", "places", "old", "thing", "pair"]
def t_asked (K : PySem.W.Frag) (C : Exs) (E : XK) : TS :=
  (tSeq (tAsg (tCall (spOf K (fs_root_of C)) [] E (tCons (tVar 0) (tCons (tOp (rIx K) (tVar 1) (tC (.int 1))) tNil))) (gName 2))
    (tSeq (tIfS (tTest (tOp (rEqD K) (tOp (rIx K) (tVar 1) (tC (.int 0))) (tC (.str "same"))))
    (tSeq (tAsg (tCall (spOf K (fs_root_of C)) [] E (tCons (tVar 0) (tCons (tOp (rIx K) (tVar 1) (tC (.int 2))) tNil))) (gName 3))
    (tRet (tAndV (tCall (spOf K (fs_is_pointer C)) [] E0 (tCons (tVar 2) tNil)) (tOp (rEqD K) (tVar 2) (tVar 3)))))
    tNext)
    (tSeq (tIfS (tB (tCall (spOf K (fs_is_pointer C)) [] E0 (tCons (tVar 2) tNil)))
    (tRet (tTup (tCons (tC (.str "thing")) (tCons (tCB (rLenS K) (tCons (tOp (rIx K) (tCall (spOf K (fs_thing_at C)) [] E (tCons (tVar 0) (tCons (tVar 2) tNil))) (tC (.int 1))) tNil)) tNil))))
    tNext)
    (tRet (tVar 2)))))
abbrev n_asked : List Str := ["heap", "deed", "held", "other"]
def t_law_walked_k12 (K : PySem.W.Frag) (C : Exs) (E : XK) : TS :=
  (tSeq (tAsg (tC (.int 0)) (gName 5))
    (tSeq (tWhile (tTest (tOp rLess (tVar 5) (tCB (rLenS K) (tCons (tVar 4) tNil))))
    (tSeq (tAsg (tDGet (tVar 2) (tOp (rIx K) (tVar 4) (tVar 5))) (gName 6))
    (tSeq (tIfS (tNot (tB (tCall (spOf K (fs_law_leads C)) [] E0 (tCons (tVar 1) (tCons (tVar 6) tNil)))))
    (tRet (tC (.bl false)))
    tNext)
    (tSeq (tAsg (tOp (rIx K) (tVar 0) (tOp (rIx K) (tOp (rIx K) (tVar 4) (tVar 5)) (tC (.int 1)))) (gName 7))
    (tSeq (tAsg (tCall (spOf K (fs_law_fields C)) [] E0 (tCons (tVar 1) (tCons (tVar 6) tNil))) (gName 8))
    (tSeq (tIfS (tTest (tOp (rNeD K) (tCB (rLenS K) (tCons (tVar 7) tNil)) (tCB (rLenS K) (tCons (tVar 8) tNil))))
    (tRet (tC (.bl false)))
    tNext)
    (tSeq (tFor (iRng1 (tCons (tCB (rLenS K) (tCons (tVar 7) tNil)) tNil)) (gName 9)
    (tIfS (tNot (tB (tCall (spOf K (fs_law_matched C)) [] E0 (tCons (tOp (rIx K) (tVar 7) (tVar 9)) (tCons (tOp (rIx K) (tVar 8) (tVar 9)) (tCons (tVar 2) (tCons (tVar 3) (tCons (tVar 4) tNil))))))))
    (tRet (tC (.bl false)))
    tNext))
    (tAsg (tOp (rPlus K) (tVar 5) (tC (.int 1))) (gName 5)))))))))
    (tRet (tC (.bl true)))))
abbrev n_law_walked_k12 : List Str := ["_law_things", "_law_after", "_law_there", "_law_back", "_law_todo", "_law_at", "_law_two", "_law_ahead", "_law_behind", "_law_k"]
def t_made (K : PySem.W.Frag) (C : Exs) (E : XK) : TS :=
  (tSeq (tDrop (tCall (spOf K (fs_sure_values C)) [] E (tCons (tVar 0) (tCons (tVar 1) tNil))))
    (tSeq (tAsg (tCB (rLenS K) (tCons (tOp (rIx K) (tVar 0) (tC (.int 0))) tNil)) (gName 2))
    (tRet (tTup (tCons (tTup (tCons (tOp (rPlus K) (tOp (rIx K) (tVar 0) (tC (.int 0))) (tTup (tCons (tTup (tCons (tC (.int 0)) (tCons (tVar 1) tNil))) tNil))) (tCons (tOp (rIx K) (tVar 0) (tC (.int 1))) (tCons (tOp (rIx K) (tVar 0) (tC (.int 2))) (tCons (tOp (rIx K) (tVar 0) (tC (.int 3))) tNil))))) (tCons (tTup (tCons (tC (.str "young")) (tCons (tVar 2) tNil))) tNil))))))
abbrev n_made : List Str := ["heap", "fields", "place"]
def t_hold (K : PySem.W.Frag) (C : Exs) (E : XK) : TS :=
  (tSeq (tIfS (tNot (tTest (tChain rLeq rLess (tC (.int 0)) (tVar 1) (tCB (rLenS K) (tCons (tOp (rIx K) (tVar 0) (tC (.int 2))) tNil)))))
    (tRaise E (.ref C.nr))
    tNext)
    (tSeq (tDrop (tCall (spOf K (fs_sure_values C)) [] E (tCons (tVar 0) (tCons (tLst (tCons (tVar 2) tNil)) tNil))))
    (tRet (tTup (tCons (tOp (rIx K) (tVar 0) (tC (.int 0))) (tCons (tOp (rIx K) (tVar 0) (tC (.int 1))) (tCons (tCall (spOf K (fs_changed C)) [] E0 (tCons (tOp (rIx K) (tVar 0) (tC (.int 2))) (tCons (tVar 1) (tCons (tVar 2) tNil)))) (tCons (tOp (rIx K) (tVar 0) (tC (.int 3))) tNil))))))))
abbrev n_hold : List Str := ["heap", "k", "value"]
def t_put (K : PySem.W.Frag) (C : Exs) (E : XK) : TS :=
  (tSeq (tAsg (tCall (spOf K (fs_thing_at C)) [] E (tCons (tVar 0) (tCons (tVar 1) tNil))) (gName 4))
    (tSeq (tDrop (tCall (spOf K (fs_sure_field C)) [] E (tCons (tVar 4) (tCons (tVar 2) tNil))))
    (tSeq (tDrop (tCall (spOf K (fs_sure_values C)) [] E (tCons (tVar 0) (tCons (tLst (tCons (tVar 3) tNil)) tNil))))
    (tSeq (tAsg (tOp (rIx K) (tVar 1) (tC (.int 1))) (gName 5))
    (tSeq (tAsg (tTup (tCons (tOp (rIx K) (tVar 4) (tC (.int 0))) (tCons (tCall (spOf K (fs_changed C)) [] E0 (tCons (tOp (rIx K) (tVar 4) (tC (.int 1))) (tCons (tVar 2) (tCons (tVar 3) tNil)))) tNil))) (gName 6))
    (tSeq (tIfS (tTest (tOp (rEqD K) (tOp (rIx K) (tVar 1) (tC (.int 0))) (tC (.str "young"))))
    (tRet (tTup (tCons (tCall (spOf K (fs_changed C)) [] E0 (tCons (tOp (rIx K) (tVar 0) (tC (.int 0))) (tCons (tVar 5) (tCons (tVar 6) tNil)))) (tCons (tOp (rIx K) (tVar 0) (tC (.int 1))) (tCons (tOp (rIx K) (tVar 0) (tC (.int 2))) (tCons (tOp (rIx K) (tVar 0) (tC (.int 3))) tNil))))))
    tNext)
    (tSeq (tAsg (tCall (spOf K (fs_booked C)) [] E0 (tCons (tOp (rIx K) (tVar 0) (tC (.int 3))) (tCons (tTup (tCons (tVar 5) (tCons (tVar 2) tNil))) (tCons (tCall (spOf K (fs_leads_young C)) [] E0 (tCons (tVar 3) tNil)) tNil)))) (gName 7))
    (tRet (tTup (tCons (tOp (rIx K) (tVar 0) (tC (.int 0))) (tCons (tCall (spOf K (fs_changed C)) [] E0 (tCons (tOp (rIx K) (tVar 0) (tC (.int 1))) (tCons (tVar 5) (tCons (tVar 6) tNil)))) (tCons (tOp (rIx K) (tVar 0) (tC (.int 2))) (tCons (tVar 7) tNil)))))))))))))
abbrev n_put : List Str := ["heap", "pointer", "k", "value", "thing", "place", "made_now", "book"]
def t_major (K : PySem.W.Frag) (C : Exs) (E : XK) : TS :=
  (tSeq (tAsg (tCall (spOf K (fs_come_both C)) [] E0 (tCons (tVar 0) tNil)) (gName 1))
    (tSeq (tAsg tDNewT (gName 2))
    (tSeq (tFor (iRng1 (tCons (tCB (rLenS K) (tCons (tOp (rIx K) (tVar 1) (tC (.int 0))) tNil)) tNil)) (gName 4)
    (sDPut (tVar 2) (tTup (tCons (tC (.str "young")) (tCons (tOp (rIx K) (tOp (rIx K) (tVar 1) (tC (.int 0))) (tVar 4)) tNil))) (tTup (tCons (tC (.str "young")) (tCons (tVar 4) tNil)))))
    (tSeq (tFor (iRng1 (tCons (tCB (rLenS K) (tCons (tOp (rIx K) (tVar 1) (tC (.int 1))) tNil)) tNil)) (gName 4)
    (sDPut (tVar 2) (tTup (tCons (tC (.str "old")) (tCons (tOp (rIx K) (tOp (rIx K) (tVar 1) (tC (.int 1))) (tVar 4)) tNil))) (tTup (tCons (tC (.str "old")) (tCons (tVar 4) tNil)))))
    (tSeq (tAsg (tCall (spOf K (fs_half_behind C)) [] E0 (tCons (tOp (rIx K) (tVar 0) (tC (.int 1))) (tCons (tOp (rIx K) (tVar 1) (tC (.int 1))) (tCons (tVar 2) tNil)))) (gName 3))
    (tRet (tTup (tCons (tCall (spOf K (fs_half_behind C)) [] E0 (tCons (tOp (rIx K) (tVar 0) (tC (.int 0))) (tCons (tOp (rIx K) (tVar 1) (tC (.int 0))) (tCons (tVar 2) tNil)))) (tCons (tVar 3) (tCons (tCall (spOf K (fs_moved_row C)) [] E0 (tCons (tOp (rIx K) (tVar 0) (tC (.int 2))) (tCons (tVar 2) tNil))) (tCons (tCall (spOf K (fs_book_of C)) [] E0 (tCons (tVar 3) tNil)) tNil)))))))))))
abbrev n_major : List Str := ["heap", "kept", "places", "old", "at"]
def t_new_places (K : PySem.W.Frag) (C : Exs) (E : XK) : TS :=
  (tSeq (tAsg tDNewT (gName 2))
    (tSeq (tAsg (tC (.int 0)) (gName 3))
    (tSeq (tAsg (tCB (rLenS K) (tCons (tOp (rIx K) (tVar 0) (tC (.int 1))) tNil)) (gName 4))
    (tSeq (tFor (iSeq K (tCall (spOf K (fs_come_young C)) [] E0 (tCons (tVar 0) tNil))) (gName 5)
    (tIfS (tTest (tOp rGeq (tOp (rIx K) (tOp (rIx K) (tOp (rIx K) (tVar 0) (tC (.int 0))) (tVar 5)) (tC (.int 0))) (tVar 1)))
    (tSeq (sDPut (tVar 2) (tTup (tCons (tC (.str "young")) (tCons (tVar 5) tNil))) (tTup (tCons (tC (.str "old")) (tCons (tVar 4) tNil))))
    (tAsg (tOp (rPlus K) (tVar 4) (tC (.int 1))) (gName 4)))
    (tSeq (sDPut (tVar 2) (tTup (tCons (tC (.str "young")) (tCons (tVar 5) tNil))) (tTup (tCons (tC (.str "young")) (tCons (tVar 3) tNil))))
    (tAsg (tOp (rPlus K) (tVar 3) (tC (.int 1))) (gName 3)))))
    (tRet (tVar 2))))))
abbrev n_new_places : List Str := ["heap", "patience", "places", "stay", "late", "place"]
def t_law_like_plain_k13 (K : PySem.W.Frag) (C : Exs) (E : XK) : TS :=
  (tSeq (tIfS (tOr (tNot (tB (tCall (spOf K (fs_law_right C)) [] E0 (tCons (tVar 2) tNil)))) (tTest (tOp (rNeD K) (tCB (rLenS K) (tCons (tOp (rIx K) (tVar 2) (tC (.int 2))) tNil)) (tCB (rLenS K) (tCons (tVar 0) tNil)))))
    (tRet (tC (.bl false)))
    tNext)
    (tSeq (tAsg tDNewT (gName 3))
    (tSeq (tAsg tDNewT (gName 4))
    (tSeq (tAsg (tLst tNil) (gName 5))
    (tSeq (tFor (iRng1 (tCons (tCB (rLenS K) (tCons (tVar 0) tNil)) tNil)) (gName 6)
    (tIfS (tNot (tB (tCall (spOf K (fs_law_matched C)) [] E0 (tCons (tOp (rIx K) (tVar 0) (tVar 6)) (tCons (tOp (rIx K) (tOp (rIx K) (tVar 2) (tC (.int 2))) (tVar 6)) (tCons (tVar 3) (tCons (tVar 4) (tCons (tVar 5) tNil))))))))
    (tRet (tC (.bl false)))
    tNext))
    (tSeq (tIfS (tNot (tB (tCall (spOf K (fs_law_walked_k12 C)) [] E0 (tCons (tVar 1) (tCons (tVar 2) (tCons (tVar 3) (tCons (tVar 4) (tCons (tVar 5) tNil))))))))
    (tRet (tC (.bl false)))
    tNext)
    (tRet (tCall (spOf K (fs_law_book_alike C)) [] E0 (tCons (tOp (rIx K) (tVar 2) (tC (.int 3))) (tCons (tCall (spOf K (fs_law_book_of C)) [] E0 (tCons (tOp (rIx K) (tVar 2) (tC (.int 1))) tNil)) tNil))))))))))
abbrev n_law_like_plain_k13 : List Str := ["_law_roots", "_law_things", "_law_after", "_law_there", "_law_back", "_law_todo", "_law_k"]
def t_minor (K : PySem.W.Frag) (C : Exs) (E : XK) : TS :=
  (tSeq (tAsg (tCall (spOf K (fs_new_places C)) [] E0 (tCons (tVar 0) (tCons (tVar 1) tNil))) (gName 2))
    (tSeq (tAsg (tLst tNil) (gName 3))
    (tSeq (tAsg (tCall (spOf K (fs_old_behind C)) [] E0 (tCons (tVar 0) (tCons (tVar 2) tNil))) (gName 4))
    (tSeq (tFor (iSeq K (tCall (spOf K (fs_come_young C)) [] E0 (tCons (tVar 0) tNil))) (gName 8)
    (tSeq (tAsg (tOp (rIx K) (tOp (rIx K) (tOp (rIx K) (tVar 0) (tC (.int 0))) (tVar 8)) (tC (.int 0))) (gName 6))
    (tSeq (tAsg (tCall (spOf K (fs_moved_row C)) [] E0 (tCons (tOp (rIx K) (tOp (rIx K) (tOp (rIx K) (tVar 0) (tC (.int 0))) (tVar 8)) (tC (.int 1))) (tCons (tVar 2) tNil))) (gName 7))
    (tIfS (tTest (tOp rGeq (tVar 6) (tVar 1)))
    (tDrop (tBM K "list" rAppend (tVar 4) (tCons (tTup (tCons (tVar 6) (tCons (tVar 7) tNil))) tNil)))
    (tDrop (tBM K "list" rAppend (tVar 3) (tCons (tTup (tCons (tOp (rPlus K) (tVar 6) (tC (.int 1))) (tCons (tVar 7) tNil))) tNil)))))))
    (tSeq (tAsg (tLst tNil) (gName 5))
    (tSeq (tFor (iSeq K (tSortSet K (tCons (tLc (iSeq K (tOp (rIx K) (tVar 0) (tC (.int 3)))) (gName 9) tYes (tOp (rIx K) (tVar 9) (tC (.int 0))) [9]) tNil))) (gName 8)
    (tDrop (tBM K "list" rExtend (tVar 5) (tCons (tCall (spOf K (fs_pairs_of C)) [] E0 (tCons (tVar 8) (tCons (tOp (rIx K) (tOp (rIx K) (tVar 4) (tVar 8)) (tC (.int 1))) tNil))) tNil))))
    (tSeq (tFor (iRng2 (tCons (tCB (rLenS K) (tCons (tOp (rIx K) (tVar 0) (tC (.int 1))) tNil)) (tCons (tCB (rLenS K) (tCons (tVar 4) tNil)) tNil))) (gName 8)
    (tDrop (tBM K "list" rExtend (tVar 5) (tCons (tCall (spOf K (fs_pairs_of C)) [] E0 (tCons (tVar 8) (tCons (tOp (rIx K) (tOp (rIx K) (tVar 4) (tVar 8)) (tC (.int 1))) tNil))) tNil))))
    (tRet (tTup (tCons (tCB (rTupS K) (tCons (tVar 3) tNil)) (tCons (tCB (rTupS K) (tCons (tVar 4) tNil)) (tCons (tCall (spOf K (fs_moved_row C)) [] E0 (tCons (tOp (rIx K) (tVar 0) (tC (.int 2))) (tCons (tVar 2) tNil))) (tCons (tCB (rTupS K) (tCons (tVar 5) tNil)) tNil)))))))))))))
abbrev n_minor : List Str := ["heap", "patience", "places", "young", "old", "book", "age", "fields", "place", "pair"]
def t_made_at (K : PySem.W.Frag) (C : Exs) (E : XK) : TS :=
  (tSeq (tDrop (tCall (spOf K (fs_root_of C)) [] E (tCons (tVar 0) (tCons (tOp (rIx K) (tVar 1) (tC (.int 1))) tNil))))
    (tSeq (tFor (iSeq K (tOp (rIx K) (tVar 1) (tC (.int 2)))) (gName 5)
    (tDrop (tCall (spOf K (fs_part_of C)) [] E (tCons (tVar 0) (tCons (tVar 5) tNil)))))
    (tSeq (tIfS (tTest (tOp rGeq (tCB (rLenS K) (tCons (tOp (rIx K) (tVar 0) (tC (.int 0))) tNil)) (tVar 2)))
    (tAsg (tCall (spOf K (fs_minor C)) [] E0 (tCons (tVar 0) (tCons (tVar 3) tNil))) (gName 0))
    tNext)
    (tSeq (tAsg (tCall (spOf K (fs_made C)) [] E (tCons (tVar 0) (tCons (tCB (rTupS K) (tCons (tLc (iSeq K (tOp (rIx K) (tVar 1) (tC (.int 2)))) (gName 5) tYes (tCall (spOf K (fs_part_of C)) [] E0 (tCons (tVar 0) (tCons (tVar 5) tNil))) [5]) tNil)) tNil))) (gName 4))
    (tRet (tCall (spOf K (fs_hold C)) [] E (tCons (tOp (rIx K) (tVar 4) (tC (.int 0))) (tCons (tOp (rIx K) (tVar 1) (tC (.int 1))) (tCons (tOp (rIx K) (tVar 4) (tC (.int 1))) tNil)))))))))
abbrev n_made_at : List Str := ["heap", "deed", "room", "patience", "found", "part"]
def t_changed_by (K : PySem.W.Frag) (C : Exs) (E : XK) : TS :=
  (tSeq (tIfS (tTest (tOp (rEqD K) (tOp (rIx K) (tVar 1) (tC (.int 0))) (tC (.str "minor"))))
    (tRet (tCall (spOf K (fs_minor C)) [] E0 (tCons (tVar 0) (tCons (tVar 3) tNil))))
    tNext)
    (tSeq (tIfS (tTest (tOp (rEqD K) (tOp (rIx K) (tVar 1) (tC (.int 0))) (tC (.str "major"))))
    (tRet (tCall (spOf K (fs_major C)) [] E0 (tCons (tVar 0) tNil)))
    tNext)
    (tSeq (tAsg (tCall (spOf K (fs_root_of C)) [] E (tCons (tVar 0) (tCons (tOp (rIx K) (tVar 1) (tC (.int 1))) tNil))) (gName 4))
    (tSeq (tIfS (tTest (tOp (rEqD K) (tOp (rIx K) (tVar 1) (tC (.int 0))) (tC (.str "make"))))
    (tRet (tCall (spOf K (fs_made_at C)) [] E (tCons (tVar 0) (tCons (tVar 1) (tCons (tVar 2) (tCons (tVar 3) tNil))))))
    tNext)
    (tSeq (tIfS (tTest (tOp (rEqD K) (tOp (rIx K) (tVar 1) (tC (.int 0))) (tC (.str "set"))))
    (tRet (tCall (spOf K (fs_hold C)) [] E (tCons (tVar 0) (tCons (tOp (rIx K) (tVar 1) (tC (.int 1))) (tCons (tCall (spOf K (fs_part_of C)) [] E (tCons (tVar 0) (tCons (tOp (rIx K) (tVar 1) (tC (.int 2))) tNil))) tNil)))))
    tNext)
    (tSeq (tIfS (tTest (tOp (rEqD K) (tOp (rIx K) (tVar 1) (tC (.int 0))) (tC (.str "put"))))
    (tRet (tCall (spOf K (fs_put C)) [] E (tCons (tVar 0) (tCons (tVar 4) (tCons (tOp (rIx K) (tVar 1) (tC (.int 2))) (tCons (tCall (spOf K (fs_part_of C)) [] E (tCons (tVar 0) (tCons (tOp (rIx K) (tVar 1) (tC (.int 3))) tNil))) tNil))))))
    tNext)
    (tRet (tCall (spOf K (fs_hold C)) [] E (tCons (tVar 0) (tCons (tOp (rIx K) (tVar 1) (tC (.int 1))) (tCons (tCall (spOf K (fs_field C)) [] E (tCons (tVar 0) (tCons (tCall (spOf K (fs_root_of C)) [] E (tCons (tVar 0) (tCons (tOp (rIx K) (tVar 1) (tC (.int 2))) tNil))) (tCons (tOp (rIx K) (tVar 1) (tC (.int 3))) tNil)))) tNil)))))))))))
abbrev n_changed_by : List Str := ["heap", "deed", "room", "patience", "held"]
def t_play (K : PySem.W.Frag) (C : Exs) (E : XK) : TS :=
  (tSeq (tAsg (tCall (spOf K (fs_started C)) [] E0 (tCons (tVar 0) tNil)) (gName 4))
    (tSeq (tAsg (tLst tNil) (gName 5))
    (tSeq (tFor (iSeq K (tVar 3)) (gName 7)
    (tSeq (tAsg (tC (.str "done")) (gName 6))
    (tSeq (tTry K (fun _ _ _ _ => False) ((.ref C.nr, fun _ _ _ => (tAsg (tC (.str "no root")) (gName 6))) :: ((.ref C.nt, fun _ _ _ => (tAsg (tC (.str "no thing")) (gName 6))) :: ((.ref C.nf, fun _ _ _ => (tAsg (tC (.str "no field")) (gName 6))) :: []))) (fun W => (tIfS (tOr (tTest (tOp (rEqD K) (tOp (rIx K) (tVar 7) (tC (.int 0))) (tC (.str "look")))) (tTest (tOp (rEqD K) (tOp (rIx K) (tVar 7) (tC (.int 0))) (tC (.str "same")))))
    (tAsg (tCallS (spOf K (fs_asked C)) (WE W) (tCons (tVar 4) (tCons (tVar 7) tNil))) (gName 6))
    (tAsg (tCallS (spOf K (fs_changed_by C)) (WE W) (tCons (tVar 4) (tCons (tVar 7) (tCons (tVar 1) (tCons (tVar 2) tNil))))) (gName 4)))))
    (tDrop (tBM K "list" rAppend (tVar 5) (tCons (tVar 6) tNil))))))
    (tRet (tTup (tCons (tVar 5) (tCons (tVar 4) tNil)))))))
abbrev n_play : List Str := ["many", "room", "patience", "deeds", "heap", "answers", "told", "deed"]
def t_law_k13 (K : PySem.W.Frag) (C : Exs) (E : XK) : TS :=
  (tSeq (tAsg (tOp (rIx K) (tLst (tCons (tC (.int 0)) (tCons (tC (.int 1)) (tCons (tC (.int 2)) (tCons (tC (.int 2)) (tCons (tC (.int 3)) (tCons (tC (.int 3)) (tCons (tC (.int 4)) (tCons (tC (.int 5)) (tCons (tC (.int 8)) (tCons (tOp (rModu) (tOp (rFloor) (tCall (spOf K (fs_law_cell_at C)) [] E0 (tCons (tVar 0) (tCons (tC (.int 0)) tNil))) (tC (.int 10))) (tC (.int 101))) tNil))))))))))) (tOp (rModu) (tCall (spOf K (fs_law_cell_at C)) [] E0 (tCons (tVar 0) (tCons (tC (.int 0)) tNil))) (tC (.int 10)))) (gName 1))
    (tSeq (tAsg (tCall (spOf K (fs_law_room_by C)) [] E0 (tCons (tCall (spOf K (fs_law_cell_at C)) [] E0 (tCons (tVar 0) (tCons (tC (.int 1)) tNil))) tNil)) (gName 2))
    (tSeq (tAsg (tOp (rModu) (tCall (spOf K (fs_law_cell_at C)) [] E0 (tCons (tVar 0) (tCons (tC (.int 2)) tNil))) (tC (.int 4))) (gName 3))
    (tSeq (tIfS (tTest (tOp (rEqD K) (tOp (rModu) (tOp (rFloor) (tCall (spOf K (fs_law_cell_at C)) [] E0 (tCons (tVar 0) (tCons (tC (.int 2)) tNil))) (tC (.int 4))) (tC (.int 8))) (tC (.int 1))))
    (tAsg (tOp (rModu) (tCall (spOf K (fs_law_cell_at C)) [] E0 (tCons (tVar 0) (tCons (tC (.int 2)) tNil))) (tOp (rPower) (tC (.int 10)) (tC (.int 60)))) (gName 3))
    tNext)
    (tSeq (tAsg (tLc (iRng1 (tCons (tVar 1) tNil)) (gName 12) tYes (tC .non) [12]) (gName 4))
    (tSeq (tAsg (tLst tNil) (gName 5))
    (tSeq (tAsg (tLst tNil) (gName 6))
    (tSeq (tAsg (tLst tNil) (gName 7))
    (tSeq (tAsg (tCall (spOf K (fs_law_cell_at C)) [] E0 (tCons (tVar 0) (tCons (tC (.int 3)) tNil))) (gName 8))
    (tSeq (tFor (iRng1 (tCons (tOp (rTimes) (tOp (rModu) (tOp (rModu) (tOp (rTimes) (tVar 8) (tC (.int 48271))) (tC (.int 2147483647))) (tC (.int 140))) (tCB rInt (tCons (tOp (rEqD K) (tOp (rModu) (tVar 8) (tC (.int 3))) (tC (.int 1))) tNil))) tNil)) (gName 12)
    (tSeq (tDrop (tBM K "list" rAppend (tVar 6) (tCons (tTup (tCons (tC (.str "make")) (tCons (tOp (rModu) (tVar 12) (tCB rMax2 (tCons (tC (.int 1)) (tCons (tVar 1) tNil)))) (tCons (tTup tNil) tNil)))) tNil)))
    (tDrop (tBM K "list" rAppend (tVar 7) (tCons (tCall (spOf K (fs_law_answer C)) [] E0 (tCons (tOp (rIx K) (tVar 6) (tUn rNeg (tC (.int 1)))) (tCons (tVar 4) (tCons (tVar 5) tNil)))) tNil)))))
    (tSeq (tFor (iSeq K (tSl (rCut K) (tVar 0) (tPart (tC (.int 4))) (tPart (tC (.int 63))))) (gName 13)
    (tSeq (tAsg (tOp (rModu) (tOp (rTimes) (tOp (rPlus K) (tVar 13) (tOp (rTimes) (tC (.int 7919)) (tCB (rLenS K) (tCons (tVar 6) tNil)))) (tC (.int 48271))) (tC (.int 2147483647))) (gName 11))
    (tSeq (tDrop (tBM K "list" rAppend (tVar 6) (tCons (tCall (spOf K (fs_law_deed_by C)) [] E0 (tCons (tVar 11) (tCons (tCall (spOf K (fs_law_number_by C)) [] E0 (tCons (tVar 13) (tCons (tCB (rLenS K) (tCons (tVar 6) tNil)) tNil))) (tCons (tVar 1) tNil)))) tNil)))
    (tDrop (tBM K "list" rAppend (tVar 7) (tCons (tCall (spOf K (fs_law_answer C)) [] E0 (tCons (tOp (rIx K) (tVar 6) (tUn rNeg (tC (.int 1)))) (tCons (tVar 4) (tCons (tVar 5) tNil)))) tNil))))))
    (tSeq (tAsg (tCB (rListS K) (tCons (tVar 6) tNil)) (gName 9))
    (tSeq (tAsg (tCall (spOf K (fs_play C)) [] E0 (tCons (tVar 1) (tCons (tVar 2) (tCons (tVar 3) (tCons (tVar 9) tNil))))) (gName 10))
    (tSeq (tIfS (tOr (tTest (tOp (rNeD K) (tVar 9) (tVar 6))) (tOr (tNot (tB (tCB (rIsi K) (tCons (tVar 10) (tCons (tC (.ty "tuple")) tNil))))) (tTest (tOp (rNeD K) (tCB (rLenS K) (tCons (tVar 10) tNil)) (tC (.int 2))))))
    (tRet (tC (.bl false)))
    tNext)
    (tSeq (tIfS (tOr (tNot (tB (tCB (rIsi K) (tCons (tOp (rIx K) (tVar 10) (tC (.int 0))) (tCons (tC (.ty "list")) tNil))))) (tTest (tOp (rNeD K) (tCB (rLenS K) (tCons (tOp (rIx K) (tVar 10) (tC (.int 0))) tNil)) (tCB (rLenS K) (tCons (tVar 7) tNil)))))
    (tRet (tC (.bl false)))
    tNext)
    (tSeq (tFor (iRng1 (tCons (tCB (rLenS K) (tCons (tVar 7) tNil)) tNil)) (gName 12)
    (tIfS (tNot (tB (tCall (spOf K (fs_law_told C)) [] E0 (tCons (tOp (rIx K) (tOp (rIx K) (tVar 10) (tC (.int 0))) (tVar 12)) (tCons (tOp (rIx K) (tVar 7) (tVar 12)) tNil)))))
    (tRet (tC (.bl false)))
    tNext))
    (tRet (tCall (spOf K (fs_law_like_plain_k13 C)) [] E0 (tCons (tVar 4) (tCons (tVar 5) (tCons (tOp (rIx K) (tVar 10) (tC (.int 1))) tNil)))))))))))))))))))))
abbrev n_law_k13 : List Str := ["_law_script", "_law_many", "_law_room", "_law_patience", "_law_roots", "_law_things", "_law_deeds", "_law_due", "_law_ahead", "_law_handed", "_law_found", "_law_number", "_law_k", "_law_cell"]
local macro_rules | `(tactic| walk_at "mm") => `(tactic| first | exact mem0 | exact mem1 | exact mem2 | exact mem3 | exact mem4 | exact mem5 | assumption)
local macro_rules | `(tactic| walk_at "pk") => `(tactic| first | exact Pick.here | exact Pick.there Pick.here | exact Pick.there (Pick.there Pick.here) | exact Pick.there (Pick.there (Pick.there Pick.here)) | exact Pick.there (Pick.there (Pick.there (Pick.there Pick.here))) | exact Pick.there (Pick.there (Pick.there (Pick.there (Pick.there Pick.here)))))
local macro_rules | `(tactic| walk_at "up") => `(tactic| first | exact Up.here | exact Up.there Up.here | exact Up.there (Up.there Up.here) | exact Up.there (Up.there (Up.there Up.here)) | exact Up.there (Up.there (Up.there (Up.there Up.here))) | exact Up.there (Up.there (Up.there (Up.there (Up.there Up.here)))))
local macro_rules | `(tactic| walk_at "rb") => `(tactic| first | rfl | assumption)
local macro_rules | `(tactic| walk_at "st") => `(tactic| with_reducible first
  | (show We _ _ _ _ _; first
    | refine w_var' ?_
    | refine w_op ?_
    | refine w_int ?_
    | refine w_call ?_
    | refine w_cb ?_
    | refine w_str ?_
    | refine w_non ?_
    | refine w_bl ?_
    | refine w_ty ?_
    | refine w_ref ?_
    | refine w_un ?_
    | refine w_chain ?_
    | refine w_andV ?_
    | refine w_orV ?_
    | refine w_notV ?_
    | refine w_ifExp ?_
    | refine w_callS ?_
    | refine w_dget ?_
    | refine w_din ?_
    | refine w_dnotin ?_
    | refine w_getA ?_
    | refine w_sl ?_)
  | (show Wa _ _ _ _ _; first
    | refine wa_nil ?_
    | refine wa_cons ?_)
  | (show Op2 _ _ _ _ _ _ _; first
    | refine x_h0 ?_
    | refine x_h1 ?_
    | refine x_h2 ?_
    | refine x_h3 ?_
    | refine x_t0 ?_
    | refine x_t1 ?_
    | refine x_p0 ?_
    | refine x_p1 ?_
    | refine x_v0 ?_
    | refine x_v1 ?_
    | refine e_wy ?_
    | refine e_wo ?_
    | refine e_ii ?_
    | refine ne_ii ?_
    | refine e_bb ?_
    | refine ne_bb ?_
    | refine nn_n ?_
    | refine nn_i ?_
    | refine nn_t ?_
    | refine x_c0 ?_
    | refine x_c1 ?_
    | refine p_addI ?_
    | refine p_sub ?_
    | refine p_lt ?_
    | refine p_le ?_
    | refine p_gt ?_
    | refine p_ge ?_
    | refine p_pow60 ?_
    | refine p_mod60 ?_)
  | (show Cl _ _ _ _ _ _; first
    | refine n_map ?_
    | refine n_c2 ?_
    | refine n_c4 ?_
    | refine n_v ?_
    | refine n_t ?_
    | refine n_p ?_
    | refine n_h ?_
    | refine i_tht ?_
    | refine i_pt ?_
    | refine i_ht ?_
    | refine i_vt ?_
    | refine i_tt ?_
    | refine i_nt ?_
    | refine i_it ?_
    | refine i_ii ?_
    | refine i_ib ?_
    | refine i_ss ?_
    | refine i_bb ?_
    | refine p_intB ?_)
  | (show Ns _ _ _ _; first
    | refine ns_s0 ?_
    | refine ns_s1 ?_
    | refine ns_s2 ?_
    | refine ns_s3 ?_
    | refine ns_s4 ?_
    | refine ns_s5 ?_
    | refine ns_s6 ?_
    | refine ns_s7 ?_
    | refine ns_s8 ?_
    | refine ns_s9 ?_
    | refine ns_s10 ?_
    | refine ns_s11 ?_
    | refine ns_s12 ?_
    | refine ns_s13 ?_
    | refine ns_seq ?_
    | refine ns_asg ?_
    | refine ns_ret ?_
    | refine ns_drop ?_
    | refine ns_next ?_
    | refine ns_brk ?_)
  | (show Wt _ _ _ _ _; first
    | refine wt_test ?_
    | refine wt_B ?_
    | refine wt_and ?_
    | refine wt_or ?_
    | refine wt_not ?_
    | refine wt_yes ?_)
  | refine wo_none ?_
  | refine wo_some ?_
  | refine p_neg ?_
  | refine p_cutT ?_
  | refine bl_ex ?_
  | refine split_lit_t ?_
  | refine split_lit_f ?_
  | refine split_or_t ?_
  | refine split_or_f ?_
  | refine split_nf ?_
  | refine split_nt ?_
  | refine split_onf ?_
  | refine split_ont ?_)
local macro_rules | `(tactic| walk_at "gi") => `(tactic| repeat (first | walk_at "st" | refine split_T rfl ?_ | refine split_F rfl ?_ | refine split_oT rfl ?_ | refine split_oF rfl ?_ | refine ⟨_, rfl, ?_⟩))
local macro_rules | `(tactic| walk_at "g1i") => `(tactic| repeat (first | walk_at "st" | refine split_T rfl ?_ | refine split_F rfl ?_ | refine split_oT rfl ?_ | refine split_oF rfl ?_ | refine ⟨_, rfl, ?_⟩ | (refine p_div (by omega) ?_) | (refine p_mod (by omega) ?_) | (refine p_mul (Or.inr ⟨by omega, by omega⟩) ?_) | (refine p_mul (Or.inl ⟨by omega, by omega⟩) ?_)))
local macro_rules | `(tactic| walk_at "go") => `(tactic| repeat (first | walk_at "st" | (with_reducible refine ns_if ?_) | refine split_T rfl ?_ | refine split_F rfl ?_ | refine split_oT rfl ?_ | refine split_oF rfl ?_ | refine ⟨_, rfl, ?_⟩))
local macro_rules | `(tactic| walk_at "g1") => `(tactic| repeat (first | walk_at "st" | (with_reducible refine ns_if ?_) | refine split_T rfl ?_ | refine split_F rfl ?_ | refine split_oT rfl ?_ | refine split_oF rfl ?_ | refine ⟨_, rfl, ?_⟩ | (refine p_div (by omega) ?_) | (refine p_mod (by omega) ?_) | (refine p_mul (Or.inr ⟨by omega, by omega⟩) ?_) | (refine p_mul (Or.inl ⟨by omega, by omega⟩) ?_)))
local macro_rules | `(tactic| walk_at "cl") => `(tactic| with_reducible first
  | refine ns_s0 ?_
  | refine ns_s1 ?_
  | refine ns_s2 ?_
  | refine ns_s3 ?_
  | refine ns_s4 ?_
  | refine ns_s5 ?_
  | refine ns_s6 ?_
  | refine ns_s7 ?_
  | refine ns_s8 ?_
  | refine ns_s9 ?_
  | refine ns_s10 ?_
  | refine ns_s11 ?_
  | refine ns_s12 ?_
  | refine ns_s13 ?_)
local macro_rules | `(tactic| walk_at "tg") => `(tactic| (refine e_lit (by decide +kernel) (by decide +kernel) ?_; walk_at "gi"))
local macro_rules | `(tactic| walk_at "tG") => `(tactic| (refine e_lit (by decide +kernel) (by decide +kernel) ?_; walk_at "go"))

theorem pr_is_pointer {K : PySem.W.Frag} {C : Exs} {vs : List V} {H : Hp} {Q : VK} {E : XK} (hsp : spOf K (fs_is_pointer C) vs H Q E) : t_is_pointer K C E { nx := fun _ H' => Q .non H', rt := Q } (L2.start n_is_pointer vs) H := by
  refine body_of (t := fun E => t_is_pointer K C E) hsp fun g rb A nx rt E hK hp hr _ hF hN => ?_
  subst hK
  try dsimp only at hp hr
  cases hr
  unfold t_is_pointer
  show Ns A _ [some g] []
  walk_at "go"
  cases g with
  | non => exact i_nt (fin0 hF ⟨rfl, rfl⟩)
  | bl b => exact i_bt (fin0 hF ⟨rfl, rfl⟩)
  | int i => exact i_it (fin0 hF ⟨rfl, rfl⟩)
  | str x => exact i_st (fin0 hF ⟨rfl, rfl⟩)
  | tup ds => exact i_tt (fin0 hF ⟨rfl, rfl⟩)
  | obj a => cases hp
  | ty n => cases hp
theorem val_plain (v : Val) : v.d.plain = true := by cases v <;> rfl
theorem val_isT (v : Val) : v.d.isT = v.isP := by cases v <;> rfl
theorem pr_leads_young {K : PySem.W.Frag} {C : Exs} {vs : List V} {H : Hp} {Q : VK} {E : XK} (hsp : spOf K (fs_leads_young C) vs H Q E) : t_leads_young K C E { nx := fun _ H' => Q .non H', rt := Q } (L2.start n_leads_young vs) H := by
  refine body_of (t := fun E => t_leads_young K C E) hsp fun v rb A nx rt E hK hp hr _ hF hN => ?_
  subst hK
  try dsimp only at hp hr
  cases hr
  unfold t_leads_young
  show Ns A _ [some v.d] []
  walk_at "go"
  refine cf_v (args := fun x => [x]) v.d rfl (val_plain v) ?_
  rw [val_isT]
  walk_at "go"
  cases v with
  | non => exact ⟨fun z => (nomatch z), fun _ => fin0 hF ⟨rfl, rfl⟩⟩
  | num i => exact ⟨fun z => (nomatch z), fun _ => fin0 hF ⟨rfl, rfl⟩⟩
  | ptr w p =>
    refine ⟨fun _ => ?_, fun z => (nomatch z)⟩
    walk_at "go"
    refine fin0 hF ⟨?_, rfl⟩
    cases w <;> rfl
theorem pr_half_of {K : PySem.W.Frag} {C : Exs} {vs : List V} {H : Hp} {Q : VK} {E : XK} (hsp : spOf K (fs_half_of C) vs H Q E) : t_half_of K C E { nx := fun _ H' => Q .non H', rt := Q } (L2.start n_half_of vs) H := by
  refine body_of (t := fun E => t_half_of K C E) hsp fun ⟨h, w, p⟩ rb A nx rt E hK hp hr _ hF hN => ?_
  subst hK
  try dsimp only at hp hr
  cases hr
  unfold t_half_of
  show Ns A _ [some h.d, some (Val.ptr w p).d] []
  walk_at "go"
  refine ⟨fun hw => ?_, fun hw => ?_⟩ <;> walk_at "go" <;> refine fin0 hF ⟨?_, rfl⟩
  · cases w <;> first | rfl | cases hw
  · cases w <;> first | rfl | cases hw
theorem pr_leads {K : PySem.W.Frag} {C : Exs} {vs : List V} {H : Hp} {Q : VK} {E : XK} (hsp : spOf K (fs_leads C) vs H Q E) : t_leads K C E { nx := fun _ H' => Q .non H', rt := Q } (L2.start n_leads vs) H := by
  refine body_of (t := fun E => t_leads K C E) hsp fun ⟨h, w, p⟩ rb A nx rt E hK hp hr _ hF hN => ?_
  subst hK
  try dsimp only at hp hr
  cases hr
  unfold t_leads
  show Ns A _ [some h.d, some (Val.ptr w p).d] []
  walk_at "go"
  refine split_dec (fun hc => ?_) (fun hc => ?_) <;> walk_at "go"
  · refine cf_v (args := fun g : Hep × Wd × Int => [g.1.d, (Val.ptr g.2.1 g.2.2).d]) (h, w, p) rfl trivial ?_
    walk_at "go"
    refine fin0 hF ⟨?_, rfl⟩
    simp [Hep.leads, inR, hc]
  · refine fin0 hF ⟨?_, rfl⟩
    simp [Hep.leads, inR, hc]
theorem at_some {h : Hep} {w : Wd} {p : Int} (e : h.leads w p = true) : ∃ t, (h.half w)[p.toNat]? = some t := by
  have e' : decide (0 ≤ p) = true ∧ decide (p < ((h.half w).length : Int)) = true := Bool.and_eq_true_iff.mp e
  have h1 := of_decide_eq_true e'.1
  have h2 := of_decide_eq_true e'.2
  exact ⟨_, List.getElem?_eq_getElem (by omega)⟩
theorem inR_pos {p : Int} {n : Nat} (e : inR p n = true) : 0 ≤ p ∧ p < n := by
  have e' := Bool.and_eq_true_iff.mp e
  exact ⟨of_decide_eq_true e'.1, of_decide_eq_true e'.2⟩
theorem inR_of {p : Int} {n : Nat} (h0 : 0 ≤ p) (h1 : p < n) : inR p n = true := by simp [inR, h0, h1]
theorem pr_thing_at {K : PySem.W.Frag} {C : Exs} {vs : List V} {H : Hp} {Q : VK} {E : XK} (hsp : spOf K (fs_thing_at C) vs H Q E) : t_thing_at K C E { nx := fun _ H' => Q .non H', rt := Q } (L2.start n_thing_at vs) H := by
  refine body_of (t := fun E => t_thing_at K C E) hsp fun ⟨h, v⟩ rb A nx rt E hK hp hr _ hF hN => ?_
  subst hK
  try dsimp only at hp hr
  cases hr
  unfold t_thing_at
  show Ns A _ [some h.d, some v.d] []
  walk_at "go"
  refine cf_v (args := fun x => [x]) v.d rfl (val_plain v) ?_
  rw [val_isT]
  walk_at "go"
  refine ⟨fun hv => ?_, fun hv => ?_⟩
  · cases v with
    | non => cases hv
    | num i => cases hv
    | ptr w p =>
      walk_at "go"
      refine cf_v (args := fun g : Hep × Wd × Int => [g.1.d, (Val.ptr g.2.1 g.2.2).d]) (h, w, p) rfl trivial ?_
      walk_at "go"
      refine ⟨fun hl => ?_, fun hl => ?_⟩
      · refine ns_raise (hF.2 _ _ _ ⟨?_, rfl⟩ rfl)
        have : h.leads w p = false := by simpa using hl
        simp [Hep.at?, this]
      · have hl' : h.leads w p = true := by simpa using hl
        obtain ⟨t, ht⟩ := at_some hl'
        walk_at "go"
        refine cf_v (args := fun g : Hep × Wd × Int => [g.1.d, (Val.ptr g.2.1 g.2.2).d]) (h, w, p) rfl trivial ?_
        walk_at "go"
        refine x_map (inR_pos hl').1 ht ?_
        exact fin0 hF ⟨⟨t, by simp [Hep.at?, hl', ht], rfl⟩, rfl⟩
  · refine ⟨fun _ => ?_, fun z => (nomatch z)⟩
    refine ns_raise (hF.2 _ _ _ ⟨?_, rfl⟩ rfl)
    cases v with
    | non => rfl
    | num i => rfl
    | ptr w p => cases hv
theorem pr_sure_field {K : PySem.W.Frag} {C : Exs} {vs : List V} {H : Hp} {Q : VK} {E : XK} (hsp : spOf K (fs_sure_field C) vs H Q E) : t_sure_field K C E { nx := fun _ H' => Q .non H', rt := Q } (L2.start n_sure_field vs) H := by
  refine body_of (t := fun E => t_sure_field K C E) hsp fun ⟨t, k⟩ rb A nx rt E hK hp hr _ hF hN => ?_
  subst hK
  try dsimp only at hp hr
  cases hr
  unfold t_sure_field
  show Ns A _ [some t.d, some (.int k)] []
  walk_at "go"
  refine split_dec (fun hc => ?_) (fun hc => ?_) <;> walk_at "go"
  · refine split_decn (fun hl => ?_) (fun hl => ?_) <;> walk_at "go"
    · exact ns_raise (hF.2 _ _ _ ⟨by simp [inR, hl], rfl⟩ rfl)
    · exact hN _ _ [] ⟨⟨by simp [inR, hc, hl], rfl⟩, rfl⟩ (fun _ h => nomatch h) ⟨_, .nil⟩
  · exact ns_raise (hF.2 _ _ _ ⟨by simp [inR, hc], rfl⟩ rfl)
theorem pr_field {K : PySem.W.Frag} {C : Exs} {vs : List V} {H : Hp} {Q : VK} {E : XK} (hsp : spOf K (fs_field C) vs H Q E) : t_field K C E { nx := fun _ H' => Q .non H', rt := Q } (L2.start n_field vs) H := by
  refine body_of (t := fun E => t_field K C E) hsp fun ⟨h, v, k⟩ rb A nx rt E hK hp hr _ hF hN => ?_
  subst hK
  try dsimp only at hp hr
  cases hr
  unfold t_field
  show Ns A _ [some h.d, some v.d, some (.int k), none] []
  walk_at "go"
  refine cf_x (h, v) rfl trivial (fun d hd => ?_) fun cls hx => ?_
  · obtain ⟨t, ht, rfl⟩ := hd
    walk_at "go"
    refine cf_x (t, k) rfl trivial (fun d hd => ?_) fun cls hx => ?_
    · obtain ⟨hk, rfl⟩ := hd
      walk_at "go"
      obtain ⟨w, hw⟩ : ∃ w, t.fs[k.toNat]? = some w := ⟨_, List.getElem?_eq_getElem (by have h2 : 0 ≤ k ∧ k < t.fs.length := inR_pos hk; omega)⟩
      refine x_map (inR_pos hk).1 hw ?_
      exact fin0 hF ⟨⟨t, w, ht, hk, hw, rfl⟩, rfl⟩
    · exact hF.2 _ _ _ (.inr ⟨t, ht, hx.1, hx.2⟩) rfl
  · exact hF.2 _ _ _ (.inl hx) rfl

theorem cell_get {ns : List Int} {k : Int} (h0 : 0 ≤ k) (h : k < ns.length) : ns[k.toNat]? = some (cellAt ns k) := by
  have hk : k.toNat < ns.length := by omega
  unfold cellAt
  rw [List.getD_eq_getElem?_getD, List.getElem?_eq_getElem hk]
  rfl
theorem cell_none {ns : List Int} {k : Int} (h : ¬ k < ns.length) : cellAt ns k = 0 := by
  unfold cellAt
  rw [List.getD_eq_getElem?_getD, List.getElem?_eq_none (by omega)]
  rfl
theorem pr_law_cell_at {K : PySem.W.Frag} {C : Exs} {vs : List V} {H : Hp} {Q : VK} {E : XK} (hsp : spOf K (fs_law_cell_at C) vs H Q E) : t_law_cell_at K C E { nx := fun _ H' => Q .non H', rt := Q } (L2.start n_law_cell_at vs) H := by
  refine body_of (t := fun E => t_law_cell_at K C E) hsp fun ⟨a, ns, k⟩ rb A nx rt E hK hp hr _ hF hN => ?_
  subst hK
  try dsimp only at hp hr
  obtain ⟨b, rfl, hb, hw⟩ := rs1 hr
  unfold t_law_cell_at
  show Ns A _ [some (.obj a), some (.int k)] [(a, b)]
  walk_at "go"
  refine n_lmap mem0 hb ?_
  walk_at "go"
  refine split_dec (fun hc => ?_) (fun hc => ?_) <;> walk_at "go"
  · refine x_lmap mem0 hb hp (cell_get hp hc) (fin0 hF ⟨rfl, rfl⟩)
  · refine fin0 hF ⟨?_, rfl⟩
    show D.int 0 = D.int (cellAt ns k)
    rw [cell_none hc]
theorem pr_law_whole {K : PySem.W.Frag} {C : Exs} {vs : List V} {H : Hp} {Q : VK} {E : XK} (hsp : spOf K (fs_law_whole C) vs H Q E) : t_law_whole K C E { nx := fun _ H' => Q .non H', rt := Q } (L2.start n_law_whole vs) H := by
  refine body_of (t := fun E => t_law_whole K C E) hsp fun x rb A nx rt E hK hp hr _ hF hN => ?_
  subst hK
  try dsimp only at hp hr
  cases hr
  unfold t_law_whole
  show Ns A _ [some x] []
  walk_at "go"
  cases x with
  | non =>
    refine i_ni ?_
    walk_at "go"
    exact fin0 hF ⟨rfl, rfl⟩
  | bl b =>
    refine i_bi ?_
    walk_at "go"
    exact fin0 hF ⟨rfl, rfl⟩
  | int i =>
    walk_at "go"
    exact fin0 hF ⟨rfl, rfl⟩
  | str s =>
    refine i_si ?_
    walk_at "go"
    exact fin0 hF ⟨rfl, rfl⟩
  | tup ds =>
    refine i_ti ?_
    walk_at "go"
    exact fin0 hF ⟨rfl, rfl⟩
  | obj a => cases hp
  | ty n => cases hp

theorem pr_law_alike {K : PySem.W.Frag} {C : Exs} {vs : List V} {H : Hp} {Q : VK} {E : XK} (hsp : spOf K (fs_law_alike C) vs H Q E) : t_law_alike K C E { nx := fun _ H' => Q .non H', rt := Q } (L2.start n_law_alike vs) H := by
  refine body_of (t := fun E => t_law_alike K C E) hsp fun v rb A nx rt E hK hp hr _ hF hN => ?_
  subst hK
  try dsimp only at hp hr
  cases hr
  unfold t_law_alike
  show Ns A _ [some v.d, some v.d] []
  walk_at "go"
  cases v with
  | non =>
    refine nn_n ?_
    walk_at "go"
    refine nn_n ?_
    exact fin0 hF ⟨rfl, rfl⟩
  | num i =>
    refine nn_i ?_
    walk_at "go"
    refine cf_v (args := fun x => [x]) (D.int i) rfl rfl ?_
    walk_at "go"
    refine e_vv (a := .num i) (b := .num i) ?_
    exact fin0 hF ⟨by rw [decide_eq_true rfl], rfl⟩
  | ptr w p =>
    refine nn_t ?_
    walk_at "go"
    refine cf_v (args := fun x => [x]) (D.int p) rfl rfl ?_
    walk_at "go"
    refine e_vv (a := .ptr w p) (b := .ptr w p) ?_
    exact fin0 hF ⟨by rw [decide_eq_true rfl], rfl⟩

theorem pairsTo_all {place : Int} {fs : List Val} : pairsTo place fs fs.length = pairsOf place fs := rfl
theorem pr_law_book_of {K : PySem.W.Frag} {C : Exs} {vs : List V} {H : Hp} {Q : VK} {E : XK} (hsp : spOf K (fs_law_book_of C) vs H Q E) : t_law_book_of K C E { nx := fun _ H' => Q .non H', rt := Q } (L2.start n_law_book_of vs) H := by
  refine body_of (t := fun E => t_law_book_of K C E) hsp fun l rb A nx rt E hK hp hr _ hF hN => ?_
  subst hK
  try dsimp only at hp hr
  cases hr
  unfold t_law_book_of
  show Ns A _ [some (things l), none, none, none, none] []
  obtain ⟨hl, hf⟩ := hp
  have blen : ∀ i, (bookOf (l.take i)).length ≤ 400000 := fun i => by
    have h1 := bookFrom_len (m := 200) (l := l.take i) (n := 0) fun t ht => hf t (List.mem_of_mem_take ht)
    have h2 : (l.take i).length ≤ 2000 := by simp; omega
    show (bookFrom 0 (l.take i)).length ≤ _
    omega
  walk_at "gi"
  refine w_lst ?_
  walk_at "gi"
  refine ⟨by simp, fun p => ?_⟩
  walk_at "gi"
  refine ns_forR1 (n := (l.length : Int)) (fun i G M => ∃ x y w, G = [some (things l), some (.obj p), x, y, w] ∧ M = [(p, .lst ((bookOf (l.take i)).map pairD))]) ?_ ?_ ?_
  · walk_at "gi"
    refine ⟨rfl, ⟨by omega, by omega⟩, none, none, none, rfl, rfl⟩
  · rintro i _ _ hi ⟨x, y, w, rfl, rfl⟩
    obtain ⟨t, ht⟩ := get_of_lt hi
    have htm := hf t (List.mem_of_getElem? ht)
    refine ns_forR1 (n := (t.fs.length : Int)) (fun k G M => ∃ x w, G = [some (things l), some (.obj p), x, some (.int i), w] ∧ M = [(p, .lst ((bookOf (l.take i) ++ pairsTo i t.fs k).map pairD))]) ?_ ?_ ?_
    · walk_at "gi"
      refine x_map (by omega) ht ?_
      walk_at "gi"
      refine ⟨rfl, ⟨by omega, by omega⟩, x, w, rfl, ?_⟩
      simp [pairsTo]
    · rintro k _ _ hk ⟨x, w, rfl, rfl⟩
      obtain ⟨v, hv⟩ := get_of_lt hk
      walk_at "gi"
      refine x_map (by omega) ht ?_
      walk_at "gi"
      refine x_map (by omega) hv ?_
      have no : v.yng = false → Ns A (NsI A (fun G M => ∃ x w, G = [some (things l), some (.obj p), x, some (.int i), w] ∧ M = [(p, .lst ((bookOf (l.take i) ++ pairsTo i t.fs (k + 1)).map pairD))])) [some (things l), some (.obj p), some v.d, some (.int i), some (.int k)] [(p, .lst ((bookOf (l.take i) ++ pairsTo i t.fs k).map pairD))] := fun h =>
        ns_i ⟨_, _, rfl, by rw [pairsTo_succ hv, h]; simp⟩
      walk_at "go"
      cases v with
      | non => exact ⟨fun z => (nomatch z), fun _ => split_lit_f (no rfl)⟩
      | num j => exact ⟨fun z => (nomatch z), fun _ => split_lit_f (no rfl)⟩
      | ptr o q =>
        refine ⟨fun _ => ?_, fun z => (nomatch z)⟩
        walk_at "go"
        refine ⟨fun ho => ?_, fun ho => ?_⟩
        · walk_at "go"
          refine w_append ?_
          walk_at "go"
          refine ⟨p, _, rfl, mem0, ?_⟩
          refine w_tup ?_
          walk_at "go"
          refine ⟨by simp, _, _, Up.here, ?_, ?_⟩
          · have h1 := blen i
            have h2 := pairsTo_len (place := (i : Int)) (fs := t.fs) (k := k)
            simp
            omega
          · refine ns_i ⟨_, _, rfl, ?_⟩
            have hy : (Val.ptr o q).yng = true := by cases o <;> first | rfl | cases ho
            rw [pairsTo_succ hv, hy]
            simp [pairD]
        · refine no ?_
          cases o <;> first | rfl | cases ho
    · rintro _ _ ⟨x, w, rfl, rfl⟩
      refine ns_i ⟨_, _, _, rfl, ?_⟩
      rw [bookOf_take ht]
      rfl
  · rintro _ _ ⟨x, y, w, rfl, rfl⟩
    walk_at "gi"
    refine c_tupL (b := .lst _) mem0 rfl ?_
    refine fin0 hF ⟨?_, rfl⟩
    rw [show (l.length : Int).toNat = l.length by omega, List.take_length]
theorem pr_law_leads {K : PySem.W.Frag} {C : Exs} {vs : List V} {H : Hp} {Q : VK} {E : XK} (hsp : spOf K (fs_law_leads C) vs H Q E) : t_law_leads K C E { nx := fun _ H' => Q .non H', rt := Q } (L2.start n_law_leads vs) H := by
  refine body_of (t := fun E => t_law_leads K C E) hsp fun ⟨h, w, p⟩ rb A nx rt E hK hp hr _ hF hN => ?_
  subst hK
  try dsimp only at hp hr
  cases hr
  unfold t_law_leads
  show Ns A _ [some h.d, some (Val.ptr w p).d, none] []
  rcases (show w = .y ∨ w = .o from hp) with rfl | rfl
  · walk_at "go"
    refine split_dec (fun hc => ?_) (fun hc => ?_) <;> walk_at "go" <;> refine fin0 hF ⟨?_, rfl⟩
    · simp [Hep.leads, Hep.half, inR, hc]; rfl
    · simp [Hep.leads, inR, hc]
  · walk_at "go"
    refine split_dec (fun hc => ?_) (fun hc => ?_) <;> walk_at "go" <;> refine fin0 hF ⟨?_, rfl⟩
    · simp [Hep.leads, Hep.half, inR, hc]; rfl
    · simp [Hep.leads, inR, hc]

section
variable {A : Am} {G : Gm} {M : Bxs} {R : D → Bxs → Prop} {h : Hep} {i : Int}
end
theorem at_yo {h : Hep} {w : Wd} {p : Int} {t : Thing} (e : h.at? (.ptr w p) = some t) : 0 ≤ p ∧ (h.half w)[p.toNat]? = some t := by
  unfold Hep.at? at e
  dsimp only at e
  split at e
  · rename_i hl
    exact ⟨(inR_pos hl).1, e⟩
  · cases e
theorem pr_started {K : PySem.W.Frag} {C : Exs} {vs : List V} {H : Hp} {Q : VK} {E : XK} (hsp : spOf K (fs_started C) vs H Q E) : t_started K C E { nx := fun _ H' => Q .non H', rt := Q } (L2.start n_started vs) H := by
  refine body_of (t := fun E => t_started K C E) hsp fun n rb A nx rt E hK hp hr _ hF hN => ?_
  subst hK
  try dsimp only at hp hr
  cases hr
  unfold t_started
  show Ns A _ [some (.int (n : Int)), none] []
  have hn : n ≤ 100000 := hp
  walk_at "gi"
  refine w_tup ?_
  walk_at "gi"
  refine w_tup ?_
  walk_at "gi"
  refine ⟨by simp, ?_⟩
  walk_at "gi"
  refine w_tup ?_
  walk_at "gi"
  refine ⟨by simp, ?_⟩
  walk_at "gi"
  refine w_lcRP (n := (n : Int)) (fun _ e => e = .non) ?_
  walk_at "gi"
  refine ⟨rfl, by omega, fun p i acc hi => ?_, fun p acc hl hP => ?_⟩
  · walk_at "gi"
    exact ⟨rfl, .refl _⟩
  walk_at "gi"
  refine c_tupL (b := .lst _) mem0 rfl ?_
  walk_at "gi"
  refine w_tup ?_
  walk_at "gi"
  refine ⟨by simp, ?_⟩
  walk_at "gi"
  refine ⟨by simp, fin0 hF ⟨?_, rfl⟩⟩
  have : acc = (List.replicate n Val.non).map Val.d := by
    refine List.ext_getElem? fun i => ?_
    by_cases hi : i < acc.length
    · have e := List.getElem?_eq_getElem hi
      rw [e, hP i _ e]
      have : i < n := by omega
      simp [List.getElem?_replicate, this]
      rfl
    · rw [List.getElem?_eq_none (by omega), List.getElem?_eq_none (by simp; omega)]
  rw [this]
  rfl
theorem cutTo {l : List D} {k : Int} (h0 : 0 ≤ k) (h1 : k ≤ l.length) : cutD l none (some k) = l.take k.toNat := by
  unfold cutD
  have e1 : HT.sIx l.length 0 none = 0 := by simp [HT.sIx]
  have e2 : HT.sIx l.length l.length (some k) = k.toNat := by
    simp [HT.sIx]
    rw [if_neg (by omega)]
    omega
  rw [e1, e2]
  simp
theorem cutFrom {l : List D} {k : Int} (h0 : 0 ≤ k) (h1 : k ≤ l.length) : cutD l (some k) none = l.drop k.toNat := by
  unfold cutD
  have e1 : HT.sIx l.length 0 (some k) = k.toNat := by
    simp [HT.sIx]
    rw [if_neg (by omega)]
    omega
  have e2 : HT.sIx l.length l.length none = l.length := by simp [HT.sIx]
  rw [e1, e2]
  refine List.take_of_length_le (by simp)
/-- row[:k] + (x,) + row[k+1:] -/
theorem cut_set {l : List D} {k : Int} {x : D} (h : inR k l.length = true) : (cutD l none (some k) ++ [x]) ++ cutD l (some (k + 1)) none = l.set k.toNat x := by
  obtain ⟨h0, h1⟩ := inR_pos h
  rw [cutTo h0 (by omega), cutFrom (by omega) (by omega), List.set_eq_take_append_cons_drop, if_pos (by omega)]
  rw [show (k + 1).toNat = k.toNat + 1 by omega]
  simp
theorem cut_len1 {l : List D} {k : Int} (h : inR k l.length = true) : (cutD l none (some k)).length ≤ l.length ∧ (cutD l (some (k + 1)) none).length ≤ l.length := by
  obtain ⟨h0, h1⟩ := inR_pos h
  rw [cutTo h0 (by omega), cutFrom (by omega) (by omega)]
  simp
  omega
theorem pr_changed {K : PySem.W.Frag} {C : Exs} {vs : List V} {H : Hp} {Q : VK} {E : XK} (hsp : spOf K (fs_changed C) vs H Q E) : t_changed K C E { nx := fun _ H' => Q .non H', rt := Q } (L2.start n_changed vs) H := by
  refine body_of (t := fun E => t_changed K C E) hsp fun ⟨l, k, x⟩ rb A nx rt E hK hp hr _ hF hN => ?_
  subst hK
  try dsimp only at hp hr
  cases hr
  unfold t_changed
  show Ns A _ [some (.tup l), some (.int k), some x] []
  obtain ⟨hk, hl⟩ := hp
  have hk : inR k l.length = true := hk
  have hl : l.length ≤ 1000000 := hl
  have c := cut_len1 hk
  walk_at "gi"
  refine w_tup ?_
  walk_at "gi"
  refine ⟨by simp, ?_⟩
  refine p_addT (by simp; omega) ?_
  walk_at "gi"
  refine p_addT (by simp; omega) ?_
  refine fin0 hF ⟨?_, rfl⟩
  rw [cut_set hk]
theorem all_take {vs : List Val} {i : Nat} {v : Val} {p : Val → Bool} (h : vs[i]? = some v) : (vs.take (i + 1)).all p = ((vs.take i).all p && p v) := by
  rw [take_snoc h, List.all_append]
  simp
theorem all_no {vs : List Val} {v : Val} {i : Nat} {p : Val → Bool} (h : vs[i]? = some v) (hv : p v = false) : vs.all p = false := by
  have := List.mem_of_getElem? h
  cases e : vs.all p with
  | false => rfl
  | true =>
    have := List.all_eq_true.mp e v this
    rw [hv] at this; cases this
theorem pr_all_lead {K : PySem.W.Frag} {C : Exs} {vs : List V} {H : Hp} {Q : VK} {E : XK} (hsp : spOf K (fs_all_lead C) vs H Q E) : t_all_lead K C E { nx := fun _ H' => Q .non H', rt := Q } (L2.start n_all_lead vs) H := by
  refine body_of (t := fun E => t_all_lead K C E) hsp fun ⟨h, vs, oa⟩ rb A nx rt E hK hp hr _ hF hN => ?_
  subst hK
  try dsimp only at hp hr
  skip
  unfold t_all_lead
  show Ns A _ [some h.d, some (rowAt vs oa), none] rb
  cases oa with
  | none =>
    cases hr
    walk_at "gi"
    refine ns_forT (ds := vs.map Val.d) (fun i G M => ∃ x, G = [some h.d, some (row vs), x] ∧ (vs.take i).all h.okV = true) ?_ ?_ ?_
    · walk_at "gi"
      exact ⟨rfl, none, rfl, by simp⟩
    · rintro Hb ht i d _ M' hd ⟨x, rfl, ha⟩
      obtain ⟨v, hv, rfl⟩ := map_get hd
      walk_at "go"
      refine cf_v (args := fun x => [x]) v.d rfl (val_plain v) ?_
      rw [val_isT]
      walk_at "go"
      have ok : h.okV v = true → Ns (A.re Hb) (NsI (A.re Hb) (fun G M => ∃ x, G = [some h.d, some (row vs), x] ∧ (vs.take (i + 1)).all h.okV = true)) [some h.d, some (row vs), some v.d] M' := fun hk => ns_i ⟨_, rfl, by rw [all_take hv, ha, hk]; rfl⟩
      cases v with
      | non => exact ⟨fun z => (nomatch z), fun _ => split_lit_f (ok rfl)⟩
      | num j => exact ⟨fun z => (nomatch z), fun _ => split_lit_f (ok rfl)⟩
      | ptr o q =>
        refine ⟨fun _ => ?_, fun z => (nomatch z)⟩
        walk_at "go"
        refine cf_v (args := fun g : Hep × Wd × Int => [g.1.d, (Val.ptr g.2.1 g.2.2).d]) (h, o, q) rfl trivial ?_
        walk_at "go"
        cases e : h.leads o q with
        | true => exact split_F rfl (ok e)
        | false =>
          refine split_T rfl ?_
          walk_at "go"
          refine fin0 (hF.re ht) ⟨?_, rfl⟩
          show D.bl false = .bl (vs.all h.okV)
          rw [all_no (p := h.okV) hv e]
    · rintro _ M' ⟨x, rfl, ha⟩
      walk_at "gi"
      refine fin0 hF ⟨?_, rfl⟩
      rw [List.length_map, List.take_length] at ha
      show D.bl true = .bl (vs.all h.okV)
      rw [ha]
  | some a =>
    obtain ⟨b, rfl, hb, hw⟩ := rs1 hr
    walk_at "gi"
    refine ns_forL (ds := vs.map Val.d) (fun p i G M => p = a ∧ ∃ x, G = [some h.d, some (.obj a), x] ∧ M = [(a, b)] ∧ (vs.take i).all h.okV = true) ?_ ?_ ?_ ?_
    · walk_at "gi"
      exact ⟨rfl, none, rfl, rfl, by simp⟩
    · rintro p i _ _ ⟨rfl, x, rfl, rfl, _⟩
      exact ⟨b, mem0, hb⟩
    · rintro p i d _ M' hd ⟨rfl, x, rfl, rfl, ha⟩
      obtain ⟨v, hv, rfl⟩ := map_get hd
      walk_at "go"
      refine cf_v (args := fun x => [x]) v.d rfl (val_plain v) ?_
      rw [val_isT]
      walk_at "go"
      have ok : h.okV v = true → Ns A (NsI A (fun G M => p = p ∧ ∃ x, G = [some h.d, some (.obj p), x] ∧ M = [(p, b)] ∧ (vs.take (i + 1)).all h.okV = true)) [some h.d, some (.obj p), some v.d] [(p, b)] := fun hk => ns_i ⟨rfl, _, rfl, rfl, by rw [all_take hv, ha, hk]; rfl⟩
      cases v with
      | non => exact ⟨fun z => (nomatch z), fun _ => split_lit_f (ok rfl)⟩
      | num j => exact ⟨fun z => (nomatch z), fun _ => split_lit_f (ok rfl)⟩
      | ptr o q =>
        refine ⟨fun _ => ?_, fun z => (nomatch z)⟩
        walk_at "go"
        refine cf_v (args := fun g : Hep × Wd × Int => [g.1.d, (Val.ptr g.2.1 g.2.2).d]) (h, o, q) rfl trivial ?_
        walk_at "go"
        cases e : h.leads o q with
        | true => exact split_F rfl (ok e)
        | false =>
          refine split_T rfl ?_
          walk_at "go"
          refine fin0 hF ⟨?_, rfl⟩
          show D.bl false = .bl (vs.all h.okV)
          rw [all_no (p := h.okV) hv e]
    · rintro p _ M' ⟨rfl, x, rfl, rfl, ha⟩
      walk_at "gi"
      refine fin0 hF ⟨?_, rfl⟩
      rw [List.length_map, List.take_length] at ha
      show D.bl true = .bl (vs.all h.okV)
      rw [ha]
theorem pr_sure_values {K : PySem.W.Frag} {C : Exs} {vs : List V} {H : Hp} {Q : VK} {E : XK} (hsp : spOf K (fs_sure_values C) vs H Q E) : t_sure_values K C E { nx := fun _ H' => Q .non H', rt := Q } (L2.start n_sure_values vs) H := by
  refine body_of (t := fun E => t_sure_values K C E) hsp fun ⟨h, vs, oa⟩ rb A nx rt E hK hp hr _ hF hN => ?_
  subst hK
  try dsimp only at hp hr
  skip
  unfold t_sure_values
  show Ns A _ [some h.d, some (rowAt vs oa)] rb
  cases oa with
  | none =>
    cases hr
    walk_at "go"
    refine cf_r0 (h, vs, none) rfl rfl trivial fun d hd => ?_
    subst hd
    walk_at "go"
    cases e : vs.all h.okV with
    | true =>
      refine split_F rfl (ns_next ?_)
      exact hN _ _ [] ⟨⟨e, rfl⟩, rfl⟩ (fun _ h => nomatch h) ⟨_, .nil⟩
    | false =>
      refine split_T rfl ?_
      exact ns_raise (hF.2 _ _ _ ⟨e, rfl⟩ rfl)
  | some a =>
    obtain ⟨b, rfl, hb, hw⟩ := rs1 hr
    walk_at "go"
    refine cf_r1 (h, vs, some a) rfl rfl .here hb trivial fun d hd => ?_
    subst hd
    walk_at "go"
    cases e : vs.all h.okV with
    | true =>
      refine split_F rfl (ns_next ?_)
      exact hN _ _ [] ⟨⟨e, rfl⟩, rfl⟩ (fun _ h => nomatch h) ⟨_, .nil⟩
    | false =>
      refine split_T rfl ?_
      exact ns_raise (hF.2 _ _ _ ⟨e, rfl⟩ rfl)
theorem cf_s0 {A : Am} {G : Gm} {M : Bxs} {R : D → Bxs → Prop} {W : L2.St → XK} {C : Exs} {ds : List D} (h : Hep) (vs : List Val) (ha : [h.d, row vs] = ds) (k : vs.all h.okV = true → R .non M) (kx : vs.all h.okV = false → EwS A W G M (.ref C.nt)) : Cf A (fs_sure_values C) W ds G M R :=
  ⟨(h, vs, none), M, [], M, ha, trivial, fun _ h => (by cases h), .nil, .nil, .nil, fun d M' ⟨⟨h1, h3⟩, h2⟩ => by subst h2 h3; exact k h1, fun cls ⟨h1, h2⟩ => by subst h2; exact kx h1⟩
theorem cf_s1 {A : Am} {G : Gm} {M M1 : Bxs} {R : D → Bxs → Prop} {W : L2.St → XK} {C : Exs} {a : Addr} {b : Box} {ds : List D} (h : Hep) (vs : List Val) (ha : [h.d, .obj a] = ds) (hm : Pick M (a, b) M1) (hb : b.rb = .l (vs.map Val.d)) (k : vs.all h.okV = true → R .non M) (kx : vs.all h.okV = false → EwS A W G M (.ref C.nt)) : Cf A (fs_sure_values C) W ds G M R :=
  ⟨(h, vs, some a), M, [(a, b)], M1, ha, trivial, fun _ h => (by cases h), .nil, .cons hm .nil, .cons ⟨rfl, hb⟩ .nil, fun d M' ⟨⟨h1, h3⟩, h2⟩ => by subst h2 h3; exact k h1, fun cls ⟨h1, h2⟩ => by subst h2; exact kx h1⟩
theorem pr_hold {K : PySem.W.Frag} {C : Exs} {vs : List V} {H : Hp} {Q : VK} {E : XK} (hsp : spOf K (fs_hold C) vs H Q E) : t_hold K C E { nx := fun _ H' => Q .non H', rt := Q } (L2.start n_hold vs) H := by
  refine body_of (t := fun E => t_hold K C E) hsp fun ⟨h, k, v⟩ rb A nx rt E hK hp hr _ hF hN => ?_
  subst hK
  try dsimp only at hp hr
  cases hr
  unfold t_hold
  show Ns A _ [some h.d, some (.int k), some v.d] []
  have hl : h.ro.length ≤ 100000 := hp
  refine ns_seq (ns_ifB (fun b => b = !inR k h.ro.length) ?_ (fun e => ?_) (fun e => ?_))
  · walk_at "go"
    refine split_dec (fun h0 => ?_) (fun h0 => ?_) <;> walk_at "go" <;> refine ⟨?_, .refl _⟩
    · simp [inR, h0]
    · simp [inR, h0]
  · refine ns_raise (hF.2 _ _ _ (.inl ⟨?_, rfl⟩) rfl)
    simpa using e.symm
  have hk : inR k h.ro.length = true := by simpa using e.symm
  walk_at "go"
  refine w_lst ?_
  walk_at "go"
  refine ⟨by simp, fun p => ?_⟩
  walk_at "go"
  refine cf_s1 h [v] rfl .here rfl (fun ok => ?_) fun no => ?_
  · walk_at "go"
    refine w_tup ?_
    walk_at "go"
    refine cf_v (args := fun g : List D × Int × D => [.tup g.1, .int g.2.1, g.2.2]) (h.ro.map Val.d, k, v.d) rfl ⟨by show inR k (h.ro.map Val.d).length = true; rw [List.length_map]; exact hk, by show (h.ro.map Val.d).length ≤ 1000000; rw [List.length_map]; omega⟩ ?_
    walk_at "go"
    refine ⟨by simp, fin0 hF ⟨⟨hk, by simpa using ok, ?_⟩, rfl⟩⟩
    simp [Hep.d, row, List.map_set]
  · exact hF.2 _ _ _ (.inr ⟨hk, by simpa using no, rfl⟩) rfl
theorem pr_made {K : PySem.W.Frag} {C : Exs} {vs : List V} {H : Hp} {Q : VK} {E : XK} (hsp : spOf K (fs_made C) vs H Q E) : t_made K C E { nx := fun _ H' => Q .non H', rt := Q } (L2.start n_made vs) H := by
  refine body_of (t := fun E => t_made K C E) hsp fun ⟨h, fs⟩ rb A nx rt E hK hp hr _ hF hN => ?_
  subst hK
  try dsimp only at hp hr
  cases hr
  unfold t_made
  show Ns A _ [some h.d, some (row fs), none] []
  have hl : h.yo.length ≤ 100000 := hp
  walk_at "go"
  refine cf_s0 h fs rfl (fun ok => ?_) fun no => hF.2 _ _ _ ⟨no, rfl⟩ rfl
  walk_at "go"
  refine w_tup ?_
  walk_at "go"
  refine w_tup ?_
  walk_at "go"
  refine w_tup ?_
  walk_at "go"
  refine w_tup ?_
  walk_at "go"
  refine ⟨by simp, ?_⟩
  walk_at "go"
  refine ⟨by simp, ?_⟩
  refine p_addT (by simp; omega) ?_
  walk_at "go"
  refine ⟨by simp, ?_⟩
  walk_at "go"
  refine w_tup ?_
  walk_at "go"
  refine ⟨by simp, ?_⟩
  walk_at "go"
  refine ⟨by simp, fin0 hF ⟨⟨ok, ?_⟩, rfl⟩⟩
  simp [Hep.more, Hep.d, Thing.d, Val.d, wordS]

theorem pr_law_book_alike {K : PySem.W.Frag} {C : Exs} {vs : List V} {H : Hp} {Q : VK} {E : XK} (hsp : spOf K (fs_law_book_alike C) vs H Q E) : t_law_book_alike K C E { nx := fun _ H' => Q .non H', rt := Q } (L2.start n_law_book_alike vs) H := by
  refine body_of (t := fun E => t_law_book_alike K C E) hsp fun l rb A nx rt E hK hp hr _ hF hN => ?_
  subst hK
  try dsimp only at hp hr
  cases hr
  unfold t_law_book_alike
  show Ns A _ [some (pairs l), some (pairs l), none] []
  have hl : l.length ≤ 9000000 := hp
  walk_at "go"
  refine split_F (by simp) ?_
  walk_at "go"
  refine ns_forR1 (n := (l.length : Int)) (fun i G M => ∃ x, G = [some (pairs l), some (pairs l), x]) ?_ ?_ ?_
  · walk_at "go"
    exact ⟨rfl, ⟨by omega, by omega⟩, none, rfl⟩
  · rintro i _ M' hi ⟨x, rfl⟩
    obtain ⟨t, ht⟩ := get_of_lt hi
    walk_at "go"
    refine x_map (by omega) ht ?_
    walk_at "go"
    refine x_map (by omega) ht ?_
    walk_at "go"
    refine x_map (by omega) ht ?_
    walk_at "go"
    refine cf_v (args := fun x => [x]) (D.int t.1) rfl rfl ?_
    walk_at "go"
    refine x_map (by omega) ht ?_
    walk_at "go"
    refine cf_v (args := fun x => [x]) (D.int t.2) rfl rfl ?_
    walk_at "go"
    refine x_map (by omega) ht ?_
    walk_at "go"
    refine x_map (by omega) ht ?_
    refine ne_pp ?_
    walk_at "go"
    refine split_F (by simp) ?_
    walk_at "go"
    exact ns_i ⟨_, rfl⟩
  · rintro _ M' ⟨x, rfl⟩
    walk_at "go"
    exact fin0 hF ⟨rfl, rfl⟩
theorem ns_ifK {A : Am} {G : Gm} {M : Bxs} {t : TT} {ts us : TS} {NX : L2.St → Hp → Prop} {rt : VK} {bk ct : L2.St → Hp → Prop} (J : Gm → Bxs → Prop)
    (h : ∀ nx2, (∀ G M, J G M → Ns A nx2 G M) → Wt A t G M fun b M1 => (b = true → Ns A (ts ⟨nx2, rt, bk, ct⟩) G M1) ∧ (b = false → Ns A (us ⟨nx2, rt, bk, ct⟩) G M1)) (k : ∀ G M, J G M → Ns A NX G M) : Ns A (tIfS t ts us ⟨NX, rt, bk, ct⟩) G M := ns_if (h NX k)
theorem pr_booked {K : PySem.W.Frag} {C : Exs} {vs : List V} {H : Hp} {Q : VK} {E : XK} (hsp : spOf K (fs_booked C) vs H Q E) : t_booked K C E { nx := fun _ H' => Q .non H', rt := Q } (L2.start n_booked vs) H := by
  refine body_of (t := fun E => t_booked K C E) hsp fun ⟨q, r, there⟩ rb A nx rt E hK hp hr _ hF hN => ?_
  subst hK
  try dsimp only at hp hr
  cases hr
  unfold t_booked
  show Ns A _ [some (pairs q), some (pairD r), some (.bl there), none, none] []
  obtain ⟨hq, hl⟩ := hp
  have hl : q.length ≤ 9000000 := hl
  have flen : ∀ i, ((q.take i).filter fun x => !decide (x = r)).length ≤ 9000000 := fun i => by
    have h1 := List.length_filter_le (fun x => !decide (x = r)) (q.take i)
    have h2 : (q.take i).length ≤ q.length := by simp; omega
    omega
  walk_at "gi"
  refine w_lcT (ds := q.map pairD) (fun i acc => acc = ((q.take i).filter fun x => !decide (x = r)).map pairD) ?_
  walk_at "gi"
  refine ⟨rfl, rfl, fun Hb ht p i acc d hd hI => ?_, fun p acc hI => ?_⟩
  · obtain ⟨x, hx, rfl⟩ := map_get hd
    subst hI
    unfold LcTurn
    walk_at "gi"
    refine ne_pp ?_
    walk_at "gi"
    refine split_decn (fun hne => ?_) (fun he => ?_)
    · walk_at "gi"
      refine ⟨by rw [List.length_map]; have := flen i; omega, ?_, .refl _⟩
      rw [take_snoc hx, List.filter_append, List.map_append]
      simp [hne]
    · refine ⟨?_, .refl _⟩
      rw [take_snoc hx, List.filter_append, List.map_append]
      simp [he]
  subst hI
  rw [List.length_map, List.take_length]
  have fl := flen q.length
  rw [List.take_length] at fl
  have fn : (q.filter fun x => !decide (x = r)).Nodup := (rising_nodup hq).sublist List.filter_sublist
  have fm : ∀ x, x ∈ (q.filter fun x => !decide (x = r)) ↔ x ∈ q ∧ x ≠ r := fun x => by simp [List.mem_filter]
  generalize (q.filter fun x => !decide (x = r)) = f at fl fn fm
  walk_at "gi"
  refine ns_ifK (fun G M => ∃ (qs : List (Int × Int)) (y : Option D), G = [some (pairs q), some (pairD r), some (.bl there), some (.obj p), y] ∧ M = [(p, .lst (qs.map pairD))] ∧ qs.Nodup ∧ ∀ x, x ∈ qs ↔ (x ∈ q ∧ x ≠ r) ∨ (there = true ∧ x = r)) (fun nx2 hk => ?_) ?_
  · walk_at "gi"
    cases there with
    | true =>
      refine split_lit_t ?_
      walk_at "gi"
      refine w_append ?_
      walk_at "gi"
      refine ⟨p, _, rfl, mem0, ?_⟩
      walk_at "gi"
      refine ⟨_, _, Up.here, by simp; omega, ?_⟩
      refine hk _ _ ⟨f ++ [r], _, rfl, by simp, ?_, fun x => by rw [List.mem_append, fm]; simp⟩
      refine List.nodup_append.mpr ⟨fn, by simp, fun a ha b hb e => ?_⟩
      cases List.mem_singleton.mp hb
      exact ((fm a).mp ha).2 e
    | false =>
      exact split_lit_f (hk _ _ ⟨f, _, rfl, rfl, fn, fun x => by rw [fm]; simp⟩)
  rintro _ _ ⟨qs, y, rfl, rfl, hn, hm⟩
  walk_at "gi"
  refine p_sortP (qs := qs) (b := .lst _) mem0 rfl fun l qs' hpm hs => ?_
  walk_at "gi"
  refine c_tupL (b := .lst _) mem0 rfl ?_
  refine fin0 hF ⟨⟨qs', rfl, rising_of hs (hpm.nodup_iff.mpr hn), fun x => ?_⟩, rfl⟩
  rw [hpm.mem_iff]
  exact hm x
theorem put_fs {t : Thing} {k : Int} {v : Val} : D.tup [.int t.age, .tup ((t.fs.map Val.d).set k.toNat v.d)] = (Thing.mk t.age (t.fs.set k.toNat v)).d := by
  simp [Thing.d, row, List.map_set]
theorem at_lt {h : Hep} {w : Wd} {p : Int} {t : Thing} (e : h.at? (.ptr w p) = some t) : inR p (h.half w).length = true := by
  unfold Hep.at? at e
  dsimp only at e
  split at e
  · rename_i hl; exact hl
  · cases e
theorem pr_put {K : PySem.W.Frag} {C : Exs} {vs : List V} {H : Hp} {Q : VK} {E : XK} (hsp : spOf K (fs_put C) vs H Q E) : t_put K C E { nx := fun _ H' => Q .non H', rt := Q } (L2.start n_put vs) H := by
  refine body_of (t := fun E => t_put K C E) hsp fun ⟨h, v0, k, v⟩ rb A nx rt E hK hp hr _ hF hN => ?_
  subst hK
  try dsimp only at hp hr
  cases hr
  unfold t_put
  show Ns A _ [some h.d, some v0.d, some (.int k), some v.d, none, none, none, none] []
  obtain ⟨sml, hbk⟩ := hp

  walk_at "gi"
  refine cf_x (h, v0) rfl trivial (fun d hd => ?_) fun cls hx => ?_
  rotate_left
  · exact hF.2 _ _ _ (.inl ⟨.inl ⟨hx.1, rfl⟩, hx.2⟩) rfl
  obtain ⟨t, ht, rfl⟩ := hd
  dsimp only at ht
  walk_at "gi"
  refine cf_x (t, k) rfl trivial (fun d hd => ?_) fun cls hx => ?_
  rotate_left
  · exact hF.2 _ _ _ (.inr ⟨.inr (.inl ⟨t, ht, hx.1, rfl⟩), hx.2⟩) rfl
  obtain ⟨hk, rfl⟩ := hd
  dsimp only at hk
  walk_at "gi"
  refine w_lst ?_
  walk_at "gi"
  refine ⟨by simp, fun p0 => ?_⟩
  walk_at "gi"
  refine cf_s1 h [v] rfl .here rfl (fun ok => ?_) fun no => ?_
  rotate_left
  · exact hF.2 _ _ _ (.inl ⟨.inr (.inr ⟨t, ht, hk, by simpa using no, rfl⟩), rfl⟩) rfl
  have ok : h.okV v = true := by simpa using ok
  cases v0 with
  | non => cases ht
  | num i => cases ht
  | ptr w p =>
    have hpin := at_lt ht
    obtain ⟨hp0, htp⟩ := at_yo ht
    have hfl : t.fs.length ≤ 100000 := by
      cases w with
      | y => exact sml.fy t (List.mem_of_getElem? htp)
      | _ => exact sml.fo t (List.mem_of_getElem? htp)
    walk_at "gi"
    refine w_tup ?_
    walk_at "gi"
    refine cf_v (args := fun g : List D × Int × D => [.tup g.1, .int g.2.1, g.2.2]) (t.fs.map Val.d, k, v.d) rfl ⟨by show inR k (t.fs.map Val.d).length = true; rw [List.length_map]; exact hk, by show (t.fs.map Val.d).length ≤ 1000000; rw [List.length_map]; omega⟩ ?_
    walk_at "gi"
    refine ⟨by simp, ?_⟩
    rw [show D.tup [D.int t.age, D.tup ((t.fs.map Val.d, k, v.d).1.set (t.fs.map Val.d, k, v.d).2.1.toNat (t.fs.map Val.d, k, v.d).2.2)] = (Thing.mk t.age (t.fs.set k.toNat v)).d from put_fs]
    walk_at "go"
    have hcut : ∀ l : List Thing, inR p l.length = true → l.length ≤ 100000 → (inR p (l.map Thing.d).length = true ∧ (l.map Thing.d).length ≤ 1000000) := fun l h1 h2 => ⟨by rw [List.length_map]; exact h1, by rw [List.length_map]; omega⟩
    have yes : w.isY = true → w = .y := fun e => by cases w <;> first | rfl | cases e
    refine ⟨fun hw => ?_, fun hw => ?_⟩
    · have hw2 := yes hw
      subst hw2
      walk_at "go"
      refine w_tup ?_
      walk_at "go"
      refine cf_v (args := fun g : List D × Int × D => [.tup g.1, .int g.2.1, g.2.2]) (h.yo.map Thing.d, p, (Thing.mk t.age (t.fs.set k.toNat v)).d) rfl (hcut _ hpin sml.yo) ?_
      walk_at "go"
      refine ⟨by simp, fin0 hF ⟨⟨h.put .y p k t v, ⟨.y, p, t, rfl, ht, hk, ok, rfl⟩, ?_⟩, rfl⟩⟩
      simp [Hep.put, Hep.d, List.map_set]
    · have hh : h.half w = h.ol := by cases w <;> first | rfl | cases hw
      rw [hh] at hpin htp
      walk_at "go"
      refine w_tup ?_
      walk_at "go"
      refine ⟨by simp, ?_⟩
      walk_at "go"
      refine cf_v (args := fun v : Val => [v.d]) v rfl trivial ?_
      walk_at "go"
      refine cf_x (h.bk, (p, k), v.yng) rfl ⟨by show Rising h.bk; rw [hbk]; exact rising_bookOf, sml.bk⟩ (fun d hd => ?_) fun _ z => z.elim
      obtain ⟨b2, rfl, hb2, hm2⟩ := hd
      dsimp only at hm2
      have eb : b2 = bookOf (h.ol.set p.toNat ⟨t.age, t.fs.set k.toNat v⟩) := by
        have hk0 := inR_pos hk
        refine book_put htp (by omega) hb2 fun q => ?_
        rw [hm2, hbk, Int.toNat_of_nonneg hp0, Int.toNat_of_nonneg hk0.1]
      subst eb
      walk_at "go"
      refine w_tup ?_
      walk_at "go"
      refine cf_v (args := fun g : List D × Int × D => [.tup g.1, .int g.2.1, g.2.2]) (h.ol.map Thing.d, p, (Thing.mk t.age (t.fs.set k.toNat v)).d) rfl (hcut _ hpin sml.ol) ?_
      walk_at "go"
      refine ⟨by simp, fin0 hF ⟨⟨h.put w p k t v, ⟨w, p, t, rfl, ht, hk, ok, rfl⟩, ?_⟩, rfl⟩⟩
      cases w with
      | y => cases hw
      | o => simp [Hep.put, Hep.d, List.map_set]
      | t => simp [Hep.put, Hep.d, List.map_set]
      | r => simp [Hep.put, Hep.d, List.map_set]

theorem ns_iS {A : Am} {G : Gm} {M M' : Bxs} {P : Gm → Bxs → Prop} (hs : M'.Sublist M) (h : P G M') : Ns A (NsI A P) G M := fun σ H S => ⟨G, M', h, S.sub hs⟩
theorem pr_pairs_of {K : PySem.W.Frag} {C : Exs} {vs : List V} {H : Hp} {Q : VK} {E : XK} (hsp : spOf K (fs_pairs_of C) vs H Q E) : t_pairs_of K C E { nx := fun _ H' => Q .non H', rt := Q } (L2.start n_pairs_of vs) H := by
  refine body_of (t := fun E => t_pairs_of K C E) hsp fun ⟨i, fs⟩ rb A nx rt E hK hp hr _ hF hN => ?_
  subst hK
  try dsimp only at hp hr
  cases hr
  unfold t_pairs_of
  show Ns A _ [some (.int i), some (row fs), none] []
  have hl : fs.length ≤ 200 := hp
  walk_at "gi"
  refine w_lcR1 (n := (fs.length : Int)) (fun k acc => acc = (pairsTo i fs k).map pairD) ?_
  walk_at "gi"
  refine ⟨rfl, by omega, rfl, fun p k acc hk hI => ?_, fun p acc hI => ?_⟩
  · obtain ⟨v, hv⟩ := get_of_lt hk
    have tl := pairsTo_len (place := i) (fs := fs) (k := k)
    subst hI
    unfold LcTurn
    walk_at "gi"
    refine x_map (by omega) hv ?_
    walk_at "gi"
    refine cf_v (args := fun v : Val => [v.d]) v rfl trivial ?_
    walk_at "gi"
    cases e : v.yng with
    | true =>
      refine split_lit_t ?_
      refine w_tup ?_
      walk_at "gi"
      refine ⟨by simp, by rw [List.length_map]; omega, ?_, .refl _⟩
      rw [pairsTo_succ hv, e]
      simp [pairD]
    | false =>
      refine split_lit_f ⟨?_, .refl _⟩
      rw [pairsTo_succ hv, e]
      simp
  · subst hI
    rw [show (fs.length : Int).toNat = fs.length by omega, pairsTo_all]
    exact fin_n hF .here
theorem pr_book_of {K : PySem.W.Frag} {C : Exs} {vs : List V} {H : Hp} {Q : VK} {E : XK} (hsp : spOf K (fs_book_of C) vs H Q E) : t_book_of K C E { nx := fun _ H' => Q .non H', rt := Q } (L2.start n_book_of vs) H := by
  refine body_of (t := fun E => t_book_of K C E) hsp fun l rb A nx rt E hK hp hr _ hF hN => ?_
  subst hK
  try dsimp only at hp hr
  cases hr
  unfold t_book_of
  show Ns A _ [some (things l), none, none] []
  obtain ⟨hl, hf⟩ := hp
  have blen : ∀ i, (bookOf (l.take i)).length ≤ 400000 := fun i => by
    have h1 := bookFrom_len (m := 200) (l := l.take i) (n := 0) fun t ht => hf t (List.mem_of_mem_take ht)
    have h2 : (l.take i).length ≤ 2000 := by simp; omega
    show (bookFrom 0 (l.take i)).length ≤ _
    omega
  walk_at "gi"
  refine w_lst ?_
  walk_at "gi"
  refine ⟨by simp, fun p => ?_⟩
  walk_at "gi"
  refine ns_forR1 (n := (l.length : Int)) (fun i G M => ∃ x, G = [some (things l), some (.obj p), x] ∧ ∃ M2, M = (p, .lst ((bookOf (l.take i)).map pairD)) :: M2) ?_ ?_ ?_
  · walk_at "gi"
    exact ⟨rfl, ⟨by omega, by omega⟩, none, rfl, [], rfl⟩
  · rintro i _ _ hi ⟨x, rfl, M2, rfl⟩
    obtain ⟨t, ht⟩ := get_of_lt hi
    have htm := hf t (List.mem_of_getElem? ht)
    walk_at "gi"
    refine w_extend ?_
    walk_at "gi"
    refine ⟨p, _, rfl, mem0, ?_⟩
    walk_at "gi"
    refine x_map (by omega) ht ?_
    walk_at "gi"
    refine cf_n0 (args := fun g : Int × List Val => [.int g.1, row g.2]) (rs := fun _ => []) ((i : Int), t.fs) rfl rfl htm fun p2 => ?_
    have pl := pairsOf_len (place := (i : Int)) (fs := t.fs)
    have bl := blen i
    refine ⟨p2, _, _, _, rfl, mem0, .there .here, by rw [List.length_map, List.length_map]; show (bookOf (l.take i)).length + (pairsOf (i : Int) t.fs).length ≤ _; omega, ?_⟩
    refine ns_iS (List.sublist_cons_self _ _) ⟨_, rfl, M2, ?_⟩
    rw [bookOf_take ht, List.map_append]
  · rintro _ _ ⟨x, rfl, M2, rfl⟩
    walk_at "gi"
    refine c_tupL (b := .lst _) mem0 rfl ?_
    refine fin0 hF ⟨?_, rfl⟩
    rw [show (l.length : Int).toNat = l.length by omega, List.take_length]
/-- the halves up to the i-th are good -/
def goodTo (h : Hep) (i : Nat) : Prop := (1 ≤ i → (h.yo.all fun t => t.fs.all h.okV) = true) ∧ (2 ≤ i → (h.ol.all fun t => t.fs.all h.okV) = true)
/-- a cut of pairs is pairs -/
theorem cut_map {α : Type} {f : α → D} {l : List α} {lo hi : Option Int} : ∃ l2 : List α, cutD (l.map f) lo hi = l2.map f ∧ l2.length ≤ l.length := by
  refine ⟨(l.drop (HT.sIx (l.map f).length 0 lo)).take (HT.sIx (l.map f).length (l.map f).length hi - HT.sIx (l.map f).length 0 lo), ?_, by simp; omega⟩
  unfold cutD
  rw [← List.map_drop, ← List.map_take]
section
variable {A : Am} {G : Gm} {M : Bxs} {R : D → Bxs → Prop} {te : TE}
theorem add_pairs {q r : List (Int × Int)} (h : q.length + r.length ≤ 9000000) (k : R (pairs (q ++ r)) M) : Op2 A (rPlus A.K) (pairs q) (pairs r) G M R := p_addT (by rw [List.length_map, List.length_map]; omega) (by rw [← List.map_append]; exact k)
theorem sl_pairs {q : List (Int × Int)} {lo hi : Option Int} (k : ∀ q2 : List (Int × Int), q2.length ≤ q.length → R (pairs q2) M) : Sl A (rCut A.K) (pairs q) lo hi G M R := p_cutT (by
  obtain ⟨l2, e, hl⟩ := cut_map (f := pairD) (l := q) (lo := lo) (hi := hi)
  rw [e]
  exact k l2 hl)
theorem w_tup1p (h : We A te G M fun d M1 => ∃ r, d = pairD r ∧ R (pairs [r]) M1) : We A (tTup (tCons te tNil)) G M R := w_tup (wa_cons fun σ H S Q q => h σ H S Q fun d M1 v H1 ⟨r, e, k⟩ => q d M1 v H1 (wa_nil ⟨by simp, by subst e; exact k⟩))
end
local macro_rules | `(tactic| walk_at "gp") => `(tactic| repeat (first | (with_reducible refine sl_pairs fun q hq => ?_) | (refine add_pairs (by (try simp only [List.length_append, List.length_cons, List.length_nil]); omega) ?_) | (refine p_mod (by omega) ?_) | (refine p_mul (Or.inr ⟨by omega, by omega⟩) ?_) | (with_reducible refine w_tup1p ?_) | walk_at "st" | refine ⟨_, rfl, ?_⟩))
theorem meet_len {p : Val → Bool} : ∀ {vs w : List Val}, (meet p w vs).length ≤ w.length + vs.length
  | [], w => by simp [meet]
  | v :: vs, w => by
    have h := meet_len (p := p) (vs := vs) (w := meet1 p w v)
    have h2 : (meet1 p w v).length ≤ w.length + 1 := by
      unfold meet1
      split
      · simp
      · omega
    show (meet p (meet1 p w v) vs).length ≤ w.length + (vs.length + 1)
    omega
theorem meet_take {p : Val → Bool} {vs w : List Val} {i : Nat} {v : Val} (h : vs[i]? = some v) : meet p w (vs.take (i + 1)) = meet1 p (meet p w (vs.take i)) v := by rw [take_snoc h, meet_snoc]
theorem ally_meet {vs w : List Val} (h : AllY w) : AllY (meet Val.yng w vs) := fun v hv => by
  rcases mem_meet.mp hv with z | ⟨_, z⟩
  · exact h v z
  · exact z
theorem allp_meet {vs w : List Val} {p : Val → Bool} (hp : ∀ v, p v = true → v.isP = true) (h : AllP w) : AllP (meet p w vs) := fun v hv => by
  rcases mem_meet.mp hv with z | ⟨_, z⟩
  · exact h v z
  · exact hp v z
theorem yng_p {v : Val} (h : v.yng = true) : v.isP = true := by rw [yng_is h]; rfl
theorem meet_turn {A : Am} {C : Exs} {x0 : Option D} {s q : Addr} {w : List Val} {v : Val} {rb : Bxs} {NX : L2.St → Hp → Prop} {rt : VK} {bk ct : L2.St → Hp → Prop} (hw : AllY w) (hl : w.length ≤ 9000000)
    (hk : Ns A NX [x0, some (.obj s), some (.obj q), some v.d] (boxK s q (meet1 Val.yng w v) ++ rb)) :
    Ns A (tIfS (tAnd (tB (tCall (spOf A.K (fs_leads_young C)) [] E0 (tCons (tVar 3) tNil))) (tB (tDNotIn (tOp (rIx A.K) (tVar 3) (tC (.int 1))) (tVar 1))))
      (tSeq (sDPut (tVar 1) (tOp (rIx A.K) (tVar 3) (tC (.int 1))) (tC (.bl true))) (tDrop (tBM A.K "list" rAppend (tVar 2) (tCons (tOp (rIx A.K) (tVar 3) (tC (.int 1))) tNil)))) tNext ⟨NX, rt, bk, ct⟩)
      [x0, some (.obj s), some (.obj q), some v.d] (boxK s q w ++ rb) := by
  walk_at "go"
  refine cf_v (args := fun v : Val => [v.d]) v rfl trivial ?_
  walk_at "go"
  cases e : v.yng with
  | false =>
    refine split_lit_f (split_lit_f ?_)
    rw [show meet1 Val.yng w v = w by unfold meet1; rw [if_neg (by rw [e]; simp)]] at hk
    exact hk
  | true =>
    have hv := yng_is e
    generalize plc v = p at hv
    subst hv
    refine split_lit_t ?_
    walk_at "go"
    refine ⟨s, _, rfl, .ofK (k := .inl p) mem0 rfl rfl, ?_⟩
    have lk := look_seenK (v := .ptr .y p) hw e
    rw [show lookD (seenK w) (.inl p) = _ from lk]
    by_cases hm : Val.ptr .y p ∈ w
    · rw [if_pos hm]
      rw [show meet1 Val.yng w (.ptr .y p) = w by unfold meet1; rw [if_neg (fun z => z.2 hm)]] at hk
      exact ⟨_, rfl, split_F rfl hk⟩
    · rw [if_neg hm]
      rw [show meet1 Val.yng w (.ptr .y p) = w ++ [.ptr .y p] by unfold meet1; rw [if_pos ⟨e, hm⟩]] at hk
      refine ⟨_, rfl, split_T rfl ?_⟩
      refine ns_seq (ns_dput ?_)
      walk_at "go"
      refine ⟨s, _, rfl, .ofK (k := .inl p) rfl (by unfold seenK; rw [List.length_map]; omega) .here, ?_⟩
      have pt := put_seenK (v := .ptr .y p) hw e hm
      rw [show putD (seenK w) (.inl p) (.bl true) = _ from pt]
      walk_at "go"
      refine w_append ?_
      walk_at "go"
      refine ⟨q, _, rfl, mem1, ?_⟩
      walk_at "go"
      refine ⟨_, _, .there .here, by simp; omega, ?_⟩
      have e2 : ((w.map plc).map D.int) ++ [D.int p] = (((w ++ [Val.ptr .y p]).map plc).map D.int) := by simp [plc]
      rw [e2]
      exact hk
theorem pr_meet {K : PySem.W.Frag} {C : Exs} {vs : List V} {H : Hp} {Q : VK} {E : XK} (hsp : spOf K (fs_meet C) vs H Q E) : t_meet K C E { nx := fun _ H' => Q .non H', rt := Q } (L2.start n_meet vs) H := by
  refine body_of (t := fun E => t_meet K C E) hsp fun ⟨vs, oa, s, q, w⟩ rb A nx rt E hK hp hr _ hF hN => ?_
  subst hK
  try dsimp only at hp hr
  skip
  unfold t_meet
  show Ns A _ [some (rowAt vs oa), some (.obj s), some (.obj q), none] (boxK s q w ++ rb)
  obtain ⟨hw, hl, hv⟩ := hp
  have aw : ∀ i, AllY (meet Val.yng w (vs.take i)) := fun i => ally_meet hw
  have al : ∀ i, (meet Val.yng w (vs.take i)).length ≤ 9000000 := fun i => by
    have h1 := meet_len (p := Val.yng) (w := w) (vs := vs.take i)
    have h2 : (vs.take i).length ≤ vs.length := by simp; omega
    omega
  have fin : ∀ G rb, Ns A nx G (boxK s q (meet Val.yng w (vs.take vs.length)) ++ rb) := fun G rb => by
    rw [List.take_length]
    refine hN _ _ (boxK s q (meet Val.yng w vs)) ⟨rfl, rfl⟩ (fun p hp => ?_) ⟨rb, .cons .here (.cons .here .nil)⟩
    rcases List.mem_cons.mp hp with rfl | hp
    · rfl
    · cases List.mem_singleton.mp hp; rfl
  cases oa with
  | none =>
    cases hr
    refine ns_forT (ds := vs.map Val.d) (fun i G M => ∃ x, G = [some (row vs), some (.obj s), some (.obj q), x] ∧ M = boxK s q (meet Val.yng w (vs.take i)) ++ []) ?_ ?_ ?_
    · walk_at "go"
      exact ⟨rfl, none, rfl, by simp [meet]⟩
    · rintro Hb ht i d _ _ hd ⟨x, rfl, rfl⟩
      obtain ⟨v, hv2, rfl⟩ := map_get hd
      refine meet_turn (A := A.re Hb) (aw i) (al i) ?_
      exact ns_i ⟨_, rfl, by rw [meet_take hv2]⟩
    · rintro _ _ ⟨x, rfl, rfl⟩
      rw [List.length_map]
      exact fin _ _
  | some a =>
    obtain ⟨b, rfl, hb, hwb⟩ := rs1 hr
    refine ns_forL (ds := vs.map Val.d) (fun p i G M => p = a ∧ ∃ x, G = [some (.obj a), some (.obj s), some (.obj q), x] ∧ M = boxK s q (meet Val.yng w (vs.take i)) ++ [(a, b)]) ?_ ?_ ?_ ?_
    · walk_at "go"
      exact ⟨rfl, none, rfl, by simp [meet]⟩
    · rintro p i _ _ ⟨rfl, x, rfl, rfl⟩
      exact ⟨b, mem2, hb⟩
    · rintro p i d _ _ hd ⟨rfl, x, rfl, rfl⟩
      obtain ⟨v, hv2, rfl⟩ := map_get hd
      refine meet_turn (aw i) (al i) ?_
      exact ns_i ⟨rfl, _, rfl, by rw [meet_take hv2]⟩
    · rintro p _ _ ⟨rfl, x, rfl, rfl⟩
      rw [List.length_map]
      exact fin _ _
theorem pr_meet_all {K : PySem.W.Frag} {C : Exs} {vs : List V} {H : Hp} {Q : VK} {E : XK} (hsp : spOf K (fs_meet_all C) vs H Q E) : t_meet_all K C E { nx := fun _ H' => Q .non H', rt := Q } (L2.start n_meet_all vs) H := by
  refine body_of (t := fun E => t_meet_all K C E) hsp fun ⟨vs, s, q, w⟩ rb A nx rt E hK hp hr _ hF hN => ?_
  subst hK
  try dsimp only at hp hr
  cases hr
  unfold t_meet_all
  show Ns A _ [some (row vs), some (.obj s), some (.obj q), none] (boxT s q w ++ [])
  obtain ⟨hw, hl, hv⟩ := hp
  have aw : ∀ i, AllP (meet Val.isP w (vs.take i)) := fun i => allp_meet (fun _ h => h) hw
  have al : ∀ i, (meet Val.isP w (vs.take i)).length ≤ 9000000 := fun i => by
    have h1 := meet_len (p := Val.isP) (w := w) (vs := vs.take i)
    have h2 : (vs.take i).length ≤ vs.length := by simp; omega
    omega
  refine ns_forT (ds := vs.map Val.d) (fun i G M => ∃ x, G = [some (row vs), some (.obj s), some (.obj q), x] ∧ M = boxT s q (meet Val.isP w (vs.take i))) ?_ ?_ ?_
  · walk_at "go"
    exact ⟨rfl, none, rfl, by simp [meet]⟩
  · rintro Hb ht i d _ _ hd ⟨x, rfl, rfl⟩
    obtain ⟨v, hv2, rfl⟩ := map_get hd
    have hk : Ns (A.re Hb) (NsI (A.re Hb) (fun G M => ∃ x, G = [some (row vs), some (.obj s), some (.obj q), x] ∧ M = boxT s q (meet Val.isP w (vs.take (i + 1))))) [some (row vs), some (.obj s), some (.obj q), some v.d] (boxT s q (meet1 Val.isP (meet Val.isP w (vs.take i)) v)) := ns_i ⟨_, rfl, by rw [meet_take hv2]⟩
    have aw := aw i
    have al := al i
    generalize meet Val.isP w (vs.take i) = u at hk aw al
    walk_at "go"
    refine cf_v (args := fun x => [x]) v.d rfl (val_plain v) ?_
    rw [val_isT]
    walk_at "go"
    cases e : v.isP with
    | false =>
      refine split_lit_f (split_lit_f ?_)
      rw [show meet1 Val.isP u v = u by unfold meet1; rw [if_neg (by rw [e]; simp)]] at hk
      exact hk
    | true =>
      refine split_lit_t ?_
      walk_at "go"
      refine ⟨s, lookD (seenT u) (keyV v), rfl, ?_, ?_⟩
      · have := LookAt.ofT (M := boxT s q u) (p := s) (k := keyV v) mem0 rfl rfl
        rw [keyV_d e] at this
        exact this
      rw [look_seenT aw e]
      by_cases hm : v ∈ u
      · rw [if_pos hm]
        rw [show meet1 Val.isP u v = u by unfold meet1; rw [if_neg (fun z => z.2 hm)]] at hk
        exact ⟨_, rfl, split_F rfl hk⟩
      · rw [if_neg hm]
        rw [show meet1 Val.isP u v = u ++ [v] by unfold meet1; rw [if_pos ⟨e, hm⟩]] at hk
        refine ⟨_, rfl, split_T rfl ?_⟩
        refine ns_seq (ns_dput ?_)
        walk_at "go"
        refine ⟨s, _, rfl, .ofT (k := keyV v) (keyV_d e).symm (by unfold seenT; rw [List.length_map]; omega) .here, ?_⟩
        rw [put_seenT aw e hm]
        walk_at "go"
        refine w_append ?_
        walk_at "go"
        refine ⟨q, _, rfl, mem1, ?_⟩
        walk_at "go"
        refine ⟨_, _, .there .here, by simp; omega, ?_⟩
        rw [show u.map Val.d ++ [v.d] = (u ++ [v]).map Val.d by simp]
        exact hk
  · rintro _ _ ⟨x, rfl, rfl⟩
    rw [List.length_map, List.take_length]
    refine hN _ _ (boxT s q (meet Val.isP w vs)) ⟨rfl, rfl⟩ (fun p hp => ?_) ⟨[], .cons .here (.cons .here .nil)⟩
    rcases List.mem_cons.mp hp with rfl | hp
    · rfl
    · cases List.mem_singleton.mp hp; rfl

section
variable {A : Am} {C : Exs} {W : L2.St → XK} {G : Gm} {M rest pk rest2 : Bxs} {R : D → Bxs → Prop} {ds : List D}
theorem cf_meet (g : MeetG) (ha : [rowAt g.vs g.oa, .obj g.s, .obj g.q] = ds) (hp : AllY g.w ∧ g.w.length ≤ 1000000 ∧ g.vs.length ≤ 100000) (hs : Sel M (boxK g.s g.q g.w) rest) (hr : Sel rest pk rest2) (hq : SqOf pk (rowRs g.vs g.oa))
    (k : R .non (boxK g.s g.q (meet Val.yng g.w g.vs) ++ rest)) : Cf A (fs_meet C) W ds G M R :=
  ⟨g, rest, pk, rest2, ha, hp, fun p hp => (by rcases List.mem_cons.mp hp with rfl | hp; · rfl
                                               · cases List.mem_singleton.mp hp; rfl), hs, hr, hq, fun d M' ⟨h1, h2⟩ => by subst h1 h2; exact k, fun _ h => h.elim⟩
theorem cf_meetA (vs : List Val) (s q : Addr) (w : List Val) (ha : [row vs, .obj s, .obj q] = ds) (hp : AllP w ∧ w.length ≤ 1000000 ∧ vs.length ≤ 100000) (hs : Sel M (boxT s q w) rest)
    (k : R .non (boxT s q (meet Val.isP w vs) ++ rest)) : Cf A (fs_meet_all C) W ds G M R :=
  ⟨(vs, s, q, w), rest, [], rest, ha, hp, fun p hp => (by rcases List.mem_cons.mp hp with rfl | hp; · rfl
                                                          · cases List.mem_singleton.mp hp; rfl), hs, .nil, .nil, fun d M' ⟨h1, h2⟩ => by subst h1 h2; exact k, fun _ h => h.elim⟩
end
theorem okP_of {h : Hep} {v : Val} (h1 : h.okV v = true) (h2 : v.yo = true) (h3 : v.isP = true) : okP h.yo.length h.ol.length v := by
  cases v with
  | non => cases h3
  | num i => cases h3
  | ptr w p =>
    have hi := inR_pos (show inR p (h.half w).length = true from h1)
    have e : p = ((p.toNat : Nat) : Int) := by omega
    cases w with
    | y => exact .inl ⟨p.toNat, by have : p < (h.yo.length : Int) := hi.2; omega, by rw [← e]⟩
    | o => exact .inr ⟨p.toNat, by have : p < (h.ol.length : Int) := hi.2; omega, by rw [← e]⟩
    | t => cases h2
    | r => cases h2
theorem okP_y {ny no : Nat} {v : Val} (h : okP ny no v) (hy : v.yng = true) : ∃ p : Nat, p < ny ∧ v = .ptr .y (p : Int) := by
  rcases h with ⟨p, h1, rfl⟩ | ⟨p, _, rfl⟩
  · exact ⟨p, h1, rfl⟩
  · cases hy
theorem gd_at {h : Hep} (g : Gd h) {x : Val} (hx : okP h.yo.length h.ol.length x) : ∃ w p t, x = .ptr w p ∧ (w = .y ∨ w = .o) ∧ 0 ≤ p ∧ (h.half w)[p.toNat]? = some t ∧ h.fsOf x = t.fs ∧ t.fs.length ≤ 200 ∧ ∀ v ∈ t.fs, h.okV v = true ∧ v.yo = true := by
  rcases hx with ⟨p, hp, rfl⟩ | ⟨p, hp, rfl⟩
  · obtain ⟨t, ht⟩ : ∃ t, h.yo[p]? = some t := ⟨_, List.getElem?_eq_getElem hp⟩
    refine ⟨.y, p, t, rfl, .inl rfl, by omega, by show h.yo[(p : Int).toNat]? = some t; rw [show (p : Int).toNat = p by omega]; exact ht, ?_, g.f.fy t (List.mem_of_getElem? ht), g.s.yo t (List.mem_of_getElem? ht)⟩
    show fsAt h.yo p = t.fs
    unfold fsAt
    rw [show (p : Int).toNat = p by omega, ht]
  · obtain ⟨t, ht⟩ : ∃ t, h.ol[p]? = some t := ⟨_, List.getElem?_eq_getElem hp⟩
    refine ⟨.o, p, t, rfl, .inr rfl, by omega, by show h.ol[(p : Int).toNat]? = some t; rw [show (p : Int).toNat = p by omega]; exact ht, ?_, g.f.fo t (List.mem_of_getElem? ht), g.s.ol t (List.mem_of_getElem? ht)⟩
    show fsAt h.ol p = t.fs
    unfold fsAt
    rw [show (p : Int).toNat = p by omega, ht]
theorem gd_step {h : Hep} (g : Gd h) : ∀ x, okP h.yo.length h.ol.length x → ∀ y ∈ h.fsOf x, y.isP = true → okP h.yo.length h.ol.length y := fun x hx y hy hp => by
  obtain ⟨w, p, t, _, _, _, _, e, _, hv⟩ := gd_at g hx
  rw [e] at hy
  exact okP_of (hv y hy).1 (hv y hy).2 hp
theorem gd_booked {h : Hep} (g : Gd h) {r : Int × Int} (hr : r ∈ h.bk) : ∃ (i k : Nat) (t : Thing), r = ((i : Int), (k : Int)) ∧ h.ol[i]? = some t ∧ t.fs[k]? = some (h.val r) ∧ (h.val r).yng = true := by
  rw [g.s.bk] at hr
  obtain ⟨i, k, t, v, rfl, h1, h2, h3⟩ := mem_bookOf.mp hr
  have : h.val ((i : Int), (k : Int)) = v := by
    show (fsAt h.ol i).getD _ _ = v
    unfold fsAt
    rw [show (i : Int).toNat = i by omega, h1]
    show t.fs.getD (k : Int).toNat .non = v
    rw [show (k : Int).toNat = k by omega, List.getD_eq_getElem?_getD, h2]
    rfl
  exact ⟨i, k, t, rfl, h1, by rw [this]; exact h2, by rw [this]; exact h3⟩
theorem gd_firsts {h : Hep} (g : Gd h) : ∀ v ∈ h.firsts, h.okV v = true ∧ v.yo = true := fun v hv => by
  rcases List.mem_append.mp hv with z | z
  · exact g.s.ro v z
  · obtain ⟨r, hr, rfl⟩ := List.mem_map.mp z
    obtain ⟨i, k, t, _, h1, h2, _⟩ := gd_booked g hr
    exact g.s.ol t (List.mem_of_getElem? h1) _ (List.mem_of_getElem? h2)
theorem meet_ok_all {h : Hep} {vs : List Val} {p : Val → Bool} (hp : ∀ v, p v = true → v.isP = true) (hv : ∀ v ∈ vs, h.okV v = true ∧ v.yo = true) : ∀ v ∈ meet p [] vs, okP h.yo.length h.ol.length v := fun v z => by
  rcases mem_meet.mp z with z | ⟨z1, z2⟩
  · cases z
  · exact okP_of (hv v z1).1 (hv v z1).2 (hp v z2)
theorem bfs_ok {h : Hep} (g : Gd h) {vs : List Val} {p : Val → Bool} (hp : ∀ v, p v = true → v.isP = true) (hv : ∀ v ∈ vs, h.okV v = true ∧ v.yo = true) {k : Nat} :
    (∀ v ∈ bfs p h.fsOf (meet p [] vs) k, okP h.yo.length h.ol.length v) ∧ (bfs p h.fsOf (meet p [] vs) k).length ≤ 4000 := by
  have h1 : ∀ v ∈ bfs p h.fsOf (meet p [] vs) k, okP h.yo.length h.ol.length v := bfs_all (meet_ok_all hp hv) fun x hx y hy py => gd_step g x hx y hy (hp y py)
  have h2 := count_le (bfs_nodup (p := p) (f := h.fsOf) (k := k) (nodup_meet (p := p) (vs := vs) (w := []) .nil)) h1
  have := g.f.yo
  have := g.f.ol
  exact ⟨h1, by omega⟩
theorem bfs_yng {h : Hep} {vs : List Val} {k : Nat} : AllY (bfs Val.yng h.fsOf (meet Val.yng [] vs) k) := bfs_all (fun v hv => by
  rcases mem_meet.mp hv with z | ⟨_, z⟩
  · cases z
  · exact z) fun x _ y _ hy => hy
theorem bk_len {h : Hep} (g : Gd h) : h.bk.length ≤ 400000 := by
  rw [g.s.bk]
  have := bookFrom_len (m := 200) (l := h.ol) (n := 0) g.f.fo
  have := g.f.ol
  show (bookFrom 0 h.ol).length ≤ _
  omega
theorem pr_come_young {K : PySem.W.Frag} {C : Exs} {vs : List V} {H : Hp} {Q : VK} {E : XK} (hsp : spOf K (fs_come_young C) vs H Q E) : t_come_young K C E { nx := fun _ H' => Q .non H', rt := Q } (L2.start n_come_young vs) H := by
  refine body_of (t := fun E => t_come_young K C E) hsp fun h rb A nx rt E hK hp hr _ hF hN => ?_
  subst hK
  try dsimp only at hp hr
  cases hr
  unfold t_come_young
  show Ns A _ [some h.d, none, none, none, none] []
  have g : Gd h := hp
  have hf := gd_firsts g
  walk_at "go"
  refine w_dnewK fun s => ?_
  walk_at "go"
  refine w_lst ?_
  walk_at "go"
  refine ⟨by simp, fun q => ?_⟩
  walk_at "go"
  refine cf_meet ⟨h.ro, none, s, q, []⟩ rfl ⟨fun _ z => (nomatch z), by simp, by show h.ro.length ≤ 100000; have := g.f.ro; omega⟩ (.cons (.there .here) (.cons .here .nil)) .nil .nil ?_
  walk_at "go"
  refine ns_forT (ds := h.bk.map pairD) (fun i G M => ∃ x, G = [some h.d, some (.obj s), some (.obj q), none, x] ∧ M = boxK s q (meet Val.yng [] (h.ro ++ (h.bk.take i).map h.val))) ?_ ?_ ?_
  · walk_at "go"
    exact ⟨rfl, none, rfl, by simp⟩
  · rintro Hb ht i d _ _ hd ⟨x, rfl, rfl⟩
    obtain ⟨r, hr, rfl⟩ := map_get hd
    obtain ⟨i2, k, t, er, h1, h2, h3⟩ := gd_booked g (List.mem_of_getElem? hr)
    have len : (meet Val.yng [] (h.ro ++ (h.bk.take i).map h.val)).length ≤ 1000000 := by
      have := meet_len (p := Val.yng) (w := []) (vs := h.ro ++ (h.bk.take i).map h.val)
      have := bk_len g
      have := g.f.ro
      simp only [List.length_append, List.length_map, List.length_take, List.length_nil] at *
      omega
    walk_at "go"
    refine w_lst ?_
    walk_at "go"
    have e1 : r.1 = (i2 : Int) := by rw [er]
    have e2 : r.2 = (k : Int) := by rw [er]
    refine x_map (x := t) (by omega) (by rw [e1, show (i2 : Int).toNat = i2 by omega]; exact h1) ?_
    walk_at "go"
    refine x_map (x := h.val r) (by omega) (by rw [e2, show (k : Int).toNat = k by omega]; exact h2) ?_
    walk_at "go"
    refine ⟨by simp, fun a => ?_⟩
    walk_at "go"
    refine cf_meet ⟨[h.val r], some a, s, q, meet Val.yng [] (h.ro ++ (h.bk.take i).map h.val)⟩ rfl ⟨ally_meet fun _ z => (nomatch z), len, by simp⟩ (.cons (.there .here) (.cons (.there .here) .nil)) (.cons .here .nil) (.cons ⟨rfl, rfl⟩ .nil) ?_
    refine ns_iS (List.sublist_append_left _ _) ⟨_, rfl, ?_⟩
    rw [take_snoc hr, List.map_append, ← List.append_assoc]
    show boxK s q (meet Val.yng (meet Val.yng [] _) [h.val r]) = boxK s q (meet Val.yng [] (_ ++ [h.val r]))
    rw [← meet_app]
  rintro _ _ ⟨x, rfl, rfl⟩
  rw [List.length_map, List.take_length]
  refine ns_seq (ns_asg (w_int ?_))
  walk_at "cl"
  refine ns_seq ?_
  refine ns_while (fun m G M => ∃ k : Nat, G = [some h.d, some (.obj s), some (.obj q), some (.int (k : Int)), x] ∧ M = boxK s q (bfs Val.yng h.fsOf (meet Val.yng [] h.firsts) k) ∧ k ≤ (bfs Val.yng h.fsOf (meet Val.yng [] h.firsts) k).length ∧ m + k = 5000) 5000 ⟨0, rfl, rfl, Nat.zero_le _, rfl⟩ ?_
  rintro m _ _ ⟨k, rfl, rfl, hk, hm⟩
  have b1 := bfs_ok g (p := Val.yng) (fun v z => yng_p z) hf (k := k)
  have b2 := bfs_yng (h := h) (vs := h.firsts) (k := k)
  generalize hw : bfs Val.yng h.fsOf (meet Val.yng [] h.firsts) k = w at hk b1 b2
  walk_at "go"
  refine n_lmap (b := .lst _) mem1 rfl ?_
  walk_at "go"
  rw [List.length_map]
  refine split_dec (fun hlt => ?_) (fun hge => ?_)
  · obtain ⟨v, hv⟩ : ∃ v, w[k]? = some v := ⟨_, List.getElem?_eq_getElem (by omega)⟩
    obtain ⟨o, p, t, rfl, _, hp0, hpt, hfs, hfl, _⟩ := gd_at g (b1.1 v (List.mem_of_getElem? hv))
    have hy := yng_is (b2 _ (List.mem_of_getElem? hv))
    injection hy with hy _
    subst hy
    walk_at "go"
    refine x_lmap (b := .lst _) (x := p) mem1 rfl (by omega) (by rw [show (k : Int).toNat = k by omega, List.getElem?_map, hv]; rfl) ?_
    walk_at "go"
    refine x_map hp0 hpt ?_
    walk_at "go"
    refine cf_meet ⟨t.fs, none, s, q, w⟩ rfl ⟨b2, by have := b1.2; show w.length ≤ _; omega, by show t.fs.length ≤ _; omega⟩ (.cons .here (.cons .here .nil)) .nil .nil ?_
    walk_at "go"
    have e : bfs Val.yng h.fsOf (meet Val.yng [] h.firsts) (k + 1) = meet Val.yng w t.fs := by
      rw [bfs_some (x := .ptr .y p) (by rw [hw]; exact hv), hw, hfs]
    refine ns_i ⟨m - 1, by omega, k + 1, rfl, ?_, ?_, by omega⟩
    · rw [e]; rfl
    · obtain ⟨tl, e3⟩ := meet_pre (p := Val.yng) (vs := t.fs) (w := w)
      rw [e, e3, List.length_append]
      omega
  · have dn : Near h w := ⟨k, hw.symm, by omega⟩
    walk_at "go"
    refine p_sortI (ns := w.map plc) (b := .lst _) mem1 rfl fun l ns' hpm hs => ?_
    walk_at "go"
    refine c_tupL (b := .lst _) mem0 rfl ?_
    refine fin0 hF ⟨⟨w, dn, ?_⟩, rfl⟩
    have wn : w.Nodup := dn.nodup (nodup_meet .nil)
    have mn : (w.map plc).Nodup := by
      refine List.pairwise_map.mpr (List.Pairwise.imp_of_mem (fun {a b} ha hb hab e => hab ?_) wn)
      rw [yng_is (b2 a ha), yng_is (b2 b hb), e]
    rw [places_eq (o := .y) (n := h.yo.length) (w := w) hs (hpm.nodup_iff.mpr mn) fun i => ?_]
    rw [hpm.mem_iff, List.mem_map]
    constructor
    · rintro ⟨v, hv, rfl⟩
      obtain ⟨p, hp, rfl⟩ := okP_y (b1.1 v hv) (b2 v hv)
      exact ⟨p, hp, hv, rfl⟩
    · rintro ⟨p, hp, hv, rfl⟩
      exact ⟨_, hv, rfl⟩

theorem bfs_p {h : Hep} {vs : List Val} {p : Val → Bool} (hp : ∀ v, p v = true → v.isP = true) {k : Nat} : AllP (bfs p h.fsOf (meet p [] vs) k) := bfs_all (fun v hv => by
  rcases mem_meet.mp hv with z | ⟨_, z⟩
  · cases z
  · exact hp v z) fun x _ y _ hy => hp y hy
theorem pr_come_in_turn {K : PySem.W.Frag} {C : Exs} {vs : List V} {H : Hp} {Q : VK} {E : XK} (hsp : spOf K (fs_come_in_turn C) vs H Q E) : t_come_in_turn K C E { nx := fun _ H' => Q .non H', rt := Q } (L2.start n_come_in_turn vs) H := by
  refine body_of (t := fun E => t_come_in_turn K C E) hsp fun h rb A nx rt E hK hp hr _ hF hN => ?_
  subst hK
  try dsimp only at hp hr
  cases hr
  unfold t_come_in_turn
  show Ns A _ [some h.d, none, none, none, none] []
  have g : Gd h := hp
  walk_at "go"
  refine w_dnewT fun s => ?_
  walk_at "go"
  refine w_lst ?_
  walk_at "go"
  refine ⟨by simp, fun q => ?_⟩
  walk_at "go"
  refine cf_meetA h.ro s q [] rfl ⟨fun _ z => (nomatch z), by simp, by show h.ro.length ≤ 100000; have := g.f.ro; omega⟩ (.cons (.there .here) (.cons .here .nil)) ?_
  refine ns_seq (ns_asg (w_int ?_))
  walk_at "cl"
  refine ns_seq ?_
  refine ns_while (fun m G M => ∃ (k : Nat) (x : Option D), G = [some h.d, some (.obj s), some (.obj q), some (.int (k : Int)), x] ∧ M = boxT s q (bfs Val.isP h.fsOf (meet Val.isP [] h.ro) k) ∧ k ≤ (bfs Val.isP h.fsOf (meet Val.isP [] h.ro) k).length ∧ m + k = 5000) 5000 ⟨0, none, rfl, rfl, Nat.zero_le _, rfl⟩ ?_
  rintro m _ _ ⟨k, x, rfl, rfl, hk, hm⟩
  have b1 := bfs_ok g (p := Val.isP) (fun v z => z) g.s.ro (k := k)
  have b2 := bfs_p (h := h) (vs := h.ro) (p := Val.isP) (fun v z => z) (k := k)
  generalize hw : bfs Val.isP h.fsOf (meet Val.isP [] h.ro) k = w at hk b1 b2
  walk_at "go"
  refine n_lmap (b := .lst _) mem1 rfl ?_
  walk_at "go"
  refine split_dec (fun hlt => ?_) (fun hge => ?_)
  · obtain ⟨v, hv⟩ : ∃ v, w[k]? = some v := ⟨_, List.getElem?_eq_getElem (by omega)⟩
    obtain ⟨o, p, t, rfl, _, hp0, hpt, hfs, hfl, _⟩ := gd_at g (b1.1 v (List.mem_of_getElem? hv))
    walk_at "go"
    refine x_lmap (b := .lst _) mem1 rfl (by omega) (by rw [show (k : Int).toNat = k by omega]; exact hv) ?_
    walk_at "go"
    refine cf_v (args := fun g : Hep × Wd × Int => [g.1.d, (Val.ptr g.2.1 g.2.2).d]) (h, o, p) rfl trivial ?_
    walk_at "go"
    refine x_map hp0 hpt ?_
    walk_at "go"
    refine cf_meetA t.fs s q w rfl ⟨b2, by have := b1.2; show w.length ≤ _; omega, by show t.fs.length ≤ _; omega⟩ (.cons .here (.cons .here .nil)) ?_
    walk_at "go"
    have e : bfs Val.isP h.fsOf (meet Val.isP [] h.ro) (k + 1) = meet Val.isP w t.fs := by
      rw [bfs_some (x := .ptr o p) (by rw [hw]; exact hv), hw, hfs]
    refine ns_i ⟨m - 1, by omega, k + 1, _, rfl, ?_, ?_, by omega⟩
    · rw [e]; rfl
    · obtain ⟨tl, e3⟩ := meet_pre (p := Val.isP) (vs := t.fs) (w := w)
      rw [e, e3, List.length_append]
      omega
  · have dn : Far h w := ⟨k, hw.symm, by omega⟩
    walk_at "go"
    refine hF.1 _ _ _ [(q, .lst (w.map Val.d))] ⟨w, q, dn, rfl, rfl⟩ (fun p hp => by cases List.mem_singleton.mp hp; rfl) ⟨_, .cons (.there .here) .nil⟩
theorem cf_turn {A : Am} {C : Exs} {W : L2.St → XK} {G : Gm} {M : Bxs} {R : D → Bxs → Prop} {ds : List D} (h : Hep) (ha : [h.d] = ds) (g : Gd h) (k : ∀ w p, Far h w → R (.obj p) ((p, .lst (w.map Val.d)) :: M)) : Cf A (fs_come_in_turn C) W ds G M R :=
  ⟨h, M, [], M, ha, g, fun _ z => (by cases z), .nil, .nil, .nil, fun d M' ⟨w, p, h1, h2, h3⟩ => by subst h2 h3; exact k w p h1, fun _ z => z.elim⟩
def Val.isW (o : Wd) : Val → Bool
  | .ptr w _ => decide (w = o)
  | _ => false
theorem far_ok {h : Hep} (g : Gd h) {w : List Val} (d : Far h w) : (∀ v ∈ w, okP h.yo.length h.ol.length v) ∧ w.length ≤ 4000 ∧ w.Nodup := by
  obtain ⟨k, rfl, _⟩ := id d
  have := bfs_ok g (p := Val.isP) (fun v z => z) g.s.ro (k := k)
  exact ⟨this.1, this.2, d.nodup (nodup_meet .nil)⟩
theorem far_places {h : Hep} (g : Gd h) {w : List Val} (d : Far h w) {o : Wd} (ho : o = .y ∨ o = .o) {ns : List Int} (hs : ns.Pairwise (· ≤ ·)) (hp : ns.Perm ((w.filter (Val.isW o)).map plc)) : ns = chosen (h.half o).length (met? o w) := by
  obtain ⟨h1, _, h3⟩ := far_ok g d
  have is : ∀ v ∈ w.filter (Val.isW o), ∃ p : Nat, p < (h.half o).length ∧ v = .ptr o (p : Int) ∧ v ∈ w := fun v hv => by
    obtain ⟨hm, hw⟩ := List.mem_filter.mp hv
    rcases h1 v hm with ⟨p, hq, rfl⟩ | ⟨p, hq, rfl⟩
    · have e : Wd.y = o := of_decide_eq_true hw
      subst e
      exact ⟨p, hq, rfl, hm⟩
    · have e : Wd.o = o := of_decide_eq_true hw
      subst e
      exact ⟨p, hq, rfl, hm⟩
  have mn : ((w.filter (Val.isW o)).map plc).Nodup := by
    refine List.pairwise_map.mpr (List.Pairwise.imp_of_mem (fun {a b} ha hb hab e => hab ?_) (h3.sublist List.filter_sublist))
    obtain ⟨p, _, rfl, _⟩ := is a ha
    obtain ⟨q, _, rfl, _⟩ := is b hb
    rw [show (p : Int) = (q : Int) from e]
  refine places_eq hs (hp.nodup_iff.mpr mn) fun i => ?_
  rw [hp.mem_iff, List.mem_map]
  constructor
  · rintro ⟨v, hv, rfl⟩
    obtain ⟨p, hp, rfl, hm⟩ := is v hv
    exact ⟨p, hp, hm, rfl⟩
  · rintro ⟨p, hp, hm, rfl⟩
    exact ⟨_, List.mem_filter.mpr ⟨hm, decide_eq_true rfl⟩, rfl⟩
theorem pr_come_both {K : PySem.W.Frag} {C : Exs} {vs : List V} {H : Hp} {Q : VK} {E : XK} (hsp : spOf K (fs_come_both C) vs H Q E) : t_come_both K C E { nx := fun _ H' => Q .non H', rt := Q } (L2.start n_come_both vs) H := by
  refine body_of (t := fun E => t_come_both K C E) hsp fun h rb A nx rt E hK hp hr _ hF hN => ?_
  subst hK
  try dsimp only at hp hr
  cases hr
  unfold t_come_both
  show Ns A _ [some h.d, none, none, none, none] []
  have g : Gd h := hp
  walk_at "go"
  refine cf_turn h rfl g fun w p d => ?_
  obtain ⟨h1, h2, h3⟩ := far_ok g d
  have fl : ∀ o i, ((w.take i).filter (Val.isW o)).length ≤ 4000 := fun o i => by
    have := List.length_filter_le (Val.isW o) (w.take i)
    have : (w.take i).length ≤ w.length := by simp; omega
    omega
  walk_at "go"
  refine w_lcL (ds := w.map Val.d) (fun i acc => acc = (((w.take i).filter (Val.isW .y)).map plc).map D.int) ?_
  walk_at "go"
  refine ⟨_, _, rfl, mem0, rfl, rfl, fun p2 i acc d hd hI => ?_, fun p2 acc hI => ?_⟩
  · obtain ⟨v, hv, rfl⟩ := map_get hd
    subst hI
    obtain ⟨o, pp, t, rfl, ho, _⟩ := gd_at g (h1 v (List.mem_of_getElem? hv))
    unfold LcTurn
    walk_at "gi"
    refine ⟨fun e => ?_, fun e => ?_⟩
    · walk_at "gi"
      refine ⟨by rw [List.length_map, List.length_map]; have := fl .y i; omega, ?_, .refl _⟩
      rw [take_snoc hv, List.filter_append]
      rcases ho with rfl | rfl
      · simp [List.filter, Val.isW, plc]
      · cases e
    · refine ⟨?_, .refl _⟩
      rw [take_snoc hv, List.filter_append]
      rcases ho with rfl | rfl
      · cases e
      · simp [List.filter, Val.isW]
  subst hI
  rw [List.length_map, List.take_length]
  walk_at "go"
  refine p_sortI (ns := (w.filter (Val.isW .y)).map plc) (b := .lst _) mem0 rfl fun l1 ns1 hp1 hs1 => ?_
  have e1 := far_places g d (.inl rfl) hs1 hp1
  subst e1
  walk_at "go"
  refine w_lcL (ds := w.map Val.d) (fun i acc => acc = (((w.take i).filter (Val.isW .o)).map plc).map D.int) ?_
  walk_at "go"
  refine ⟨_, _, rfl, mem2, rfl, rfl, fun p2 i acc d hd hI => ?_, fun p2 acc hI => ?_⟩
  · obtain ⟨v, hv, rfl⟩ := map_get hd
    subst hI
    obtain ⟨o, pp, t, rfl, ho, _⟩ := gd_at g (h1 v (List.mem_of_getElem? hv))
    unfold LcTurn
    walk_at "gi"
    refine ⟨fun e => ?_, fun e => ?_⟩
    · walk_at "gi"
      refine ⟨by rw [List.length_map, List.length_map]; have := fl .o i; omega, ?_, .refl _⟩
      rw [take_snoc hv, List.filter_append]
      rcases ho with rfl | rfl
      · cases e
      · simp [List.filter, Val.isW, plc]
    · refine ⟨?_, .refl _⟩
      rw [take_snoc hv, List.filter_append]
      rcases ho with rfl | rfl
      · simp [List.filter, Val.isW]
      · cases e
  subst hI
  rw [List.length_map, List.take_length]
  walk_at "go"
  refine p_sortI (ns := (w.filter (Val.isW .o)).map plc) (b := .lst _) mem0 rfl fun l2 ns2 hp2 hs2 => ?_
  have e2 := far_places g d (.inr rfl) hs2 hp2
  subst e2
  walk_at "go"
  refine w_tup ?_
  walk_at "go"
  refine c_tupL (b := .lst _) mem2 rfl ?_
  walk_at "go"
  refine c_tupL (b := .lst _) mem0 rfl ?_
  walk_at "go"
  exact ⟨by simp, fin0 hF ⟨⟨w, d, rfl⟩, rfl⟩⟩
theorem pr_law_fields {K : PySem.W.Frag} {C : Exs} {vs : List V} {H : Hp} {Q : VK} {E : XK} (hsp : spOf K (fs_law_fields C) vs H Q E) : t_law_fields K C E { nx := fun _ H' => Q .non H', rt := Q } (L2.start n_law_fields vs) H := by
  refine body_of (t := fun E => t_law_fields K C E) hsp fun ⟨h, o, p⟩ rb A nx rt E hK hp hr _ hF hN => ?_
  subst hK
  try dsimp only at hp hr
  cases hr
  unfold t_law_fields
  show Ns A _ [some h.d, some (Val.ptr o p).d] []
  obtain ⟨t, ht⟩ := at_some (show h.leads o p = true from hp)
  have hp0 := (inR_pos (show inR p (h.half o).length = true from hp)).1
  have e : h.fsOf (.ptr o p) = t.fs := by
    show fsAt (h.half o) p = _
    unfold fsAt
    rw [ht]
  walk_at "go"
  refine ⟨fun hw => ?_, fun hw => ?_⟩
  · have : o = .y := by cases o <;> first | rfl | cases hw
    subst this
    walk_at "go"
    refine x_map hp0 ht ?_
    walk_at "go"
    refine fin0 hF ⟨?_, rfl⟩
    show row t.fs = row (h.fsOf (.ptr .y p))
    rw [e]
  · have hh : h.half o = h.ol := by cases o <;> first | rfl | cases hw
    walk_at "go"
    refine x_map hp0 (hh ▸ ht) ?_
    walk_at "go"
    refine fin0 hF ⟨?_, rfl⟩
    show row t.fs = row (h.fsOf (.ptr o p))
    rw [e]
section
variable {A : Am} {C : Exs} {W : L2.St → XK} {G : Gm} {M M1 : Bxs} {R : D → Bxs → Prop} {ds : List D}
end
section
variable {A : Am} {G : Gm} {M M1 : Bxs} {R : D → Bxs → Prop} {a : Addr} {b : Box} {ps : List (Val × Val)} {v : Val}
/-- what d.get(v, v) gives -/
theorem getAt_map (hm : (a, b) ∈ M) (hb : b.rb = .t (mapT ps)) (hp : KeysP ps) : GetAt M a v.d v.d (mvV ps v).d := by
  cases e : v.isP with
  | true =>
    refine .inl ⟨(lookV ps v).map Val.d, ?_, ?_⟩
    · have := LookAt.ofT (k := keyV v) hm hb (look_mapT e hp)
      rw [keyV_d e] at this
      exact this
    · unfold mvV
      cases lookV ps v <;> rfl
  | false =>
    refine .inr ⟨?_, ⟨b, _, hm, hb⟩, ?_⟩
    · cases v with
      | non => exact .inl rfl
      | num i => exact .inr ⟨i, rfl⟩
      | ptr w p => cases e
    · unfold mvV
      rw [lookV_not hp e]
      rfl
end
theorem pr_moved {K : PySem.W.Frag} {C : Exs} {vs : List V} {H : Hp} {Q : VK} {E : XK} (hsp : spOf K (fs_moved C) vs H Q E) : t_moved K C E { nx := fun _ H' => Q .non H', rt := Q } (L2.start n_moved vs) H := by
  refine body_of (t := fun E => t_moved K C E) hsp fun ⟨v, ps, a⟩ rb A nx rt E hK hp hr _ hF hN => ?_
  subst hK
  try dsimp only at hp hr
  obtain ⟨b, rfl, hb, hw⟩ := rs1 hr
  unfold t_moved
  show Ns A _ [some v.d, some (.obj a)] [(a, b)]
  have kp : KeysP ps := hp
  walk_at "go"
  refine cf_v (args := fun x => [x]) v.d rfl (val_plain v) ?_
  rw [val_isT]
  walk_at "go"
  cases e : v.isP with
  | true =>
    refine split_lit_t ?_
    walk_at "go"
    refine ⟨⟨b, mem0, .inl ⟨_, hb⟩⟩, ?_⟩
    walk_at "go"
    exact ⟨_, getAt_map mem0 hb kp, fin0 hF ⟨rfl, rfl⟩⟩
  | false =>
    refine split_lit_f ?_
    walk_at "go"
    refine fin0 hF ⟨?_, rfl⟩
    show v.d = (mvV ps v).d
    unfold mvV
    rw [lookV_not kp e]
    rfl
theorem pr_moved_row {K : PySem.W.Frag} {C : Exs} {vs : List V} {H : Hp} {Q : VK} {E : XK} (hsp : spOf K (fs_moved_row C) vs H Q E) : t_moved_row K C E { nx := fun _ H' => Q .non H', rt := Q } (L2.start n_moved_row vs) H := by
  refine body_of (t := fun E => t_moved_row K C E) hsp fun ⟨vs, ps, a⟩ rb A nx rt E hK hp hr _ hF hN => ?_
  subst hK
  try dsimp only at hp hr
  obtain ⟨b, rfl, hb, hw⟩ := rs1 hr
  unfold t_moved_row
  show Ns A _ [some (row vs), some (.obj a), none] [(a, b)]
  obtain ⟨kp, hl⟩ := hp
  have hl : vs.length ≤ 100000 := hl
  walk_at "go"
  refine w_lcTP (xs := vs.map Val.d) (fun i e => ∀ v, vs[i]? = some v → e = (mvV ps v).d) ?_
  walk_at "go"
  refine ⟨rfl, by rw [List.length_map]; omega, fun Hb ht p i acc d hd => ?_, fun p acc hl hP => ?_⟩
  · obtain ⟨v, hv, rfl⟩ := map_get hd
    walk_at "go"
    refine cf_r1 (v, ⟨ps, a⟩) rfl rfl (.there .here) hb kp fun d hd => ?_
    subst hd
    refine ⟨fun v2 hv2 => ?_, .refl _⟩
    rw [hv] at hv2
    cases hv2
    rfl
  have e := all_of (f := Val.d) (g := mvV ps) (bs := vs) (acc := acc) (by rw [hl, List.length_map]) fun i e v h1 h2 => hP i e h1 v h2
  subst e
  walk_at "go"
  refine c_tupL (b := .lst _) mem0 rfl ?_
  exact fin0 hF ⟨rfl, rfl⟩
theorem thingAt_get {l : List Thing} {k : Int} (h : inR k l.length = true) : l[k.toNat]? = some (thingAt l k) := by
  have := inR_pos h
  unfold thingAt
  rw [List.getD_eq_getElem?_getD, List.getElem?_eq_getElem (by omega)]
  rfl
theorem pr_half_behind {K : PySem.W.Frag} {C : Exs} {vs : List V} {H : Hp} {Q : VK} {E : XK} (hsp : spOf K (fs_half_behind C) vs H Q E) : t_half_behind K C E { nx := fun _ H' => Q .non H', rt := Q } (L2.start n_half_behind vs) H := by
  refine body_of (t := fun E => t_half_behind K C E) hsp fun ⟨l, ks, ps, a⟩ rb A nx rt E hK hp hr _ hF hN => ?_
  subst hK
  try dsimp only at hp hr
  obtain ⟨b, rfl, hb, hw⟩ := rs1 hr
  unfold t_half_behind
  show Ns A _ [some (things l), some (nums ks), some (.obj a), none] [(a, b)]
  obtain ⟨kp, hk, hl, hf⟩ := hp
  walk_at "go"
  refine w_lcTP (xs := ks.map D.int) (fun i e => ∀ k, ks[i]? = some k → e = (tmv ps (thingAt l k)).d) ?_
  walk_at "go"
  refine ⟨rfl, by rw [List.length_map]; omega, fun Hb ht p i acc d hd => ?_, fun p acc hl hP => ?_⟩
  · obtain ⟨k, hk2, rfl⟩ := map_get hd
    have hin := hk k (List.mem_of_getElem? hk2)
    have ht2 := thingAt_get hin
    have hf2 := hf _ (List.mem_of_getElem? ht2)
    refine w_tup ?_
    walk_at "go"
    refine x_map (inR_pos hin).1 ht2 ?_
    walk_at "go"
    refine x_map (inR_pos hin).1 ht2 ?_
    walk_at "go"
    refine cf_r1 ((thingAt l k).fs, ⟨ps, a⟩) rfl rfl (.there .here) hb ⟨kp, hf2⟩ fun d hd => ?_
    subst hd
    walk_at "go"
    refine ⟨by simp, fun k2 hk3 => ?_, .refl _⟩
    rw [hk2] at hk3
    cases hk3
    rfl
  have e := all_of (f := Thing.d) (g := fun k => tmv ps (thingAt l k)) (bs := ks) (acc := acc) (by rw [hl, List.length_map]) fun i e v h1 h2 => hP i e h1 v h2
  subst e
  walk_at "go"
  refine c_tupL (b := .lst _) mem0 rfl ?_
  exact fin0 hF ⟨rfl, rfl⟩
theorem chosen_in {n : Nat} {c : Nat → Bool} : ∀ k ∈ chosen n c, inR k n = true := fun k hk => by
  obtain ⟨j, hj, _, rfl⟩ := mem_chosen.mp hk
  exact inR_of (by omega) (by omega)
theorem kept_len {ps : List (Val × Val)} {l : List Thing} {ks : List Int} : (kept ps l ks).length = ks.length := by simp [kept]
theorem kept_fs {ps : List (Val × Val)} {l : List Thing} {ks : List Int} {m : Nat} (hk : ∀ k ∈ ks, inR k l.length = true) (h : ∀ t ∈ l, t.fs.length ≤ m) : ∀ t ∈ kept ps l ks, t.fs.length ≤ m := fun t ht => by
  obtain ⟨k, hk2, rfl⟩ := List.mem_map.mp ht
  have := h _ (List.mem_of_getElem? (thingAt_get (hk k hk2)))
  simpa [tmv] using this
theorem pr_major {K : PySem.W.Frag} {C : Exs} {vs : List V} {H : Hp} {Q : VK} {E : XK} (hsp : spOf K (fs_major C) vs H Q E) : t_major K C E { nx := fun _ H' => Q .non H', rt := Q } (L2.start n_major vs) H := by
  refine body_of (t := fun E => t_major K C E) hsp fun h rb A nx rt E hK hp hr _ hF hN => ?_
  subst hK
  try dsimp only at hp hr
  cases hr
  unfold t_major
  show Ns A _ [some h.d, none, none, none, none] []
  have g : Gd h := hp
  walk_at "go"
  refine cf_x h rfl g (fun d hd => ?_) fun _ z => z.elim
  obtain ⟨w, dw, rfl⟩ := hd
  have ly := chosen_len (n := h.yo.length) (c := met? .y w)
  have lo := chosen_len (n := h.ol.length) (c := met? .o w)
  have ny := asc_nodup (asc_chosen (n := h.yo.length) (c := met? .y w))
  have no := asc_nodup (asc_chosen (n := h.ol.length) (c := met? .o w))
  have iy := chosen_in (n := h.yo.length) (c := met? .y w)
  have io := chosen_in (n := h.ol.length) (c := met? .o w)
  have em : majorH h w = ⟨kept (numb .y 0 (chosen h.yo.length (met? .y w)) ++ numb .o 0 (chosen h.ol.length (met? .o w))) h.yo (chosen h.yo.length (met? .y w)), kept (numb .y 0 (chosen h.yo.length (met? .y w)) ++ numb .o 0 (chosen h.ol.length (met? .o w))) h.ol (chosen h.ol.length (met? .o w)), h.ro.map (mvV (numb .y 0 (chosen h.yo.length (met? .y w)) ++ numb .o 0 (chosen h.ol.length (met? .o w)))), bookOf (kept (numb .y 0 (chosen h.yo.length (met? .y w)) ++ numb .o 0 (chosen h.ol.length (met? .o w))) h.ol (chosen h.ol.length (met? .o w)))⟩ := rfl
  have key : ∀ d, d = (⟨kept (numb .y 0 (chosen h.yo.length (met? .y w)) ++ numb .o 0 (chosen h.ol.length (met? .o w))) h.yo (chosen h.yo.length (met? .y w)), kept (numb .y 0 (chosen h.yo.length (met? .y w)) ++ numb .o 0 (chosen h.ol.length (met? .o w))) h.ol (chosen h.ol.length (met? .o w)), h.ro.map (mvV (numb .y 0 (chosen h.yo.length (met? .y w)) ++ numb .o 0 (chosen h.ol.length (met? .o w)))), bookOf (kept (numb .y 0 (chosen h.yo.length (met? .y w)) ++ numb .o 0 (chosen h.ol.length (met? .o w))) h.ol (chosen h.ol.length (met? .o w)))⟩ : Hep).d → (∃ w, Far h w ∧ d = (majorH h w).d) := fun d e => ⟨w, dw, by rw [em]; exact e⟩
  have g1 := g.f.yo
  have g2 := g.f.ol
  generalize hky : chosen h.yo.length (met? .y w) = ky at ly ny iy key
  generalize hko : chosen h.ol.length (met? .o w) = ko at lo no io key
  clear em
  walk_at "go"
  refine w_dnewT fun p => ?_
  walk_at "go"
  refine ns_forR1 (n := (ky.length : Int)) (fun i G M => ∃ x, G = [some h.d, some (.tup [nums ky, nums ko]), some (.obj p), none, x] ∧ M = [(p, .dt (mapT (numb .y 0 (ky.take i))))]) ?_ ?_ ?_
  · walk_at "go"
    exact ⟨rfl, ⟨by omega, by omega⟩, none, rfl, rfl⟩
  · rintro i _ _ hi ⟨x, rfl, rfl⟩
    obtain ⟨k, hk⟩ := get_of_lt hi
    refine ns_dput ?_
    refine w_tup ?_
    walk_at "go"
    refine ⟨by simp, ?_⟩
    walk_at "go"
    refine w_tup ?_
    walk_at "go"
    refine x_map (by omega) hk ?_
    walk_at "go"
    refine ⟨by simp, p, _, rfl, .ofT (k := keyV (.ptr .y k)) rfl ?_ .here, ?_⟩
    · unfold mapT
      rw [List.length_map, numb_len]
      simp
      omega
    · have := put_mapT (u := .ptr .y (i : Int)) numb_p (v := .ptr .y k) rfl (numb_fresh ny hk)
      rw [show D.tup [D.str (Str.ofString "young"), D.int (i : Int)] = (Val.ptr .y (i : Int)).d from rfl, this, ← numb_take hk]
      exact ns_i ⟨_, rfl, rfl⟩
  rintro _ _ ⟨x, rfl, rfl⟩
  rw [show (ky.length : Int).toNat = ky.length by omega, List.take_length]
  refine ns_seq ?_
  refine ns_forR1 (n := (ko.length : Int)) (fun i G M => ∃ x, G = [some h.d, some (.tup [nums ky, nums ko]), some (.obj p), none, x] ∧ M = [(p, .dt (mapT (numb .y 0 ky ++ numb .o 0 (ko.take i))))]) ?_ ?_ ?_
  · walk_at "go"
    exact ⟨rfl, ⟨by omega, by omega⟩, _, rfl, by simp [numb]⟩
  · rintro i _ _ hi ⟨x, rfl, rfl⟩
    obtain ⟨k, hk⟩ := get_of_lt hi
    refine ns_dput ?_
    refine w_tup ?_
    walk_at "go"
    refine ⟨by simp, ?_⟩
    walk_at "go"
    refine w_tup ?_
    walk_at "go"
    refine x_map (by omega) hk ?_
    walk_at "go"
    refine ⟨by simp, p, _, rfl, .ofT (k := keyV (.ptr .o k)) rfl ?_ .here, ?_⟩
    · unfold mapT
      rw [List.length_map, List.length_append, numb_len, numb_len]
      simp
      omega
    · have kp : KeysP (numb .y 0 ky ++ numb .o 0 (ko.take i)) := fun q hq => (List.mem_append.mp hq).elim (numb_p q) (numb_p q)
      have := put_mapT (u := .ptr .o (i : Int)) kp (v := .ptr .o k) rfl fun q hq => (List.mem_append.mp hq).elim (fun z e => by
        obtain ⟨k2, _, e2⟩ := numb_key z
        rw [e] at e2
        cases e2) (numb_fresh no hk q)
      rw [show D.tup [D.str (Str.ofString "old"), D.int (i : Int)] = (Val.ptr .o (i : Int)).d from rfl, this, List.append_assoc, ← numb_take hk]
      exact ns_i ⟨_, rfl, rfl⟩
  rintro _ _ ⟨x, rfl, rfl⟩
  rw [show (ko.length : Int).toNat = ko.length by omega, List.take_length]
  have kp : KeysP (numb .y 0 ky ++ numb .o 0 ko) := fun q hq => (List.mem_append.mp hq).elim (numb_p q) (numb_p q)
  generalize numb .y 0 ky ++ numb .o 0 ko = ps at kp key
  walk_at "go"
  refine cf_r1 (h.ol, ko, ⟨ps, p⟩) rfl rfl .here rfl ⟨kp, io, by show ko.length ≤ _; omega, fun t ht => by have := g.f.fo t ht; omega⟩ fun d hd => ?_
  subst hd
  walk_at "go"
  refine w_tup ?_
  walk_at "go"
  refine cf_r1 (h.yo, ky, ⟨ps, p⟩) rfl rfl .here rfl ⟨kp, iy, by show ky.length ≤ _; omega, fun t ht => by have := g.f.fy t ht; omega⟩ fun d hd => ?_
  subst hd
  walk_at "go"
  refine cf_r1 (h.ro, ⟨ps, p⟩) rfl rfl .here rfl ⟨kp, by have := g.f.ro; show h.ro.length ≤ _; omega⟩ fun d hd => ?_
  subst hd
  walk_at "go"
  refine cf_v (args := fun l => [things l]) (kept ps h.ol ko) rfl ⟨by rw [kept_len]; omega, kept_fs io g.f.fo⟩ ?_
  walk_at "go"
  exact ⟨by simp, fin0 hF ⟨key _ rfl, rfl⟩⟩

/-- what is put behind i halves -/
def psTo (h : Hep) (w : List Val) : Nat → List (Val × Val)
  | 0 => []
  | 1 => numb .y 0 (chosen h.yo.length (met? .y w))
  | _ => majPs h w

def numN (w : List Val) : List (List Key × D) := (numT 0 w).map fun q => (keyV q.1, .int (plc q.2))
/-- the rows of the first k turns -/
def srcs (h : Hep) (w : List Val) (k : Nat) : List (List Val) := h.ro :: (w.take k).map h.fsOf
section
variable {A : Am} {C : Exs} {W : L2.St → XK} {G : Gm} {M M1 : Bxs} {R : D → Bxs → Prop} {ds : List D}
theorem cf_newpl (h : Hep) (pat : Int) (ha : [h.d, .int pat] = ds) (g : Gd h) (k : ∀ w p, Near h w → R (.obj p) ((p, .dt (mapT (minQs h pat w))) :: M)) : Cf A (fs_new_places C) W ds G M R :=
  ⟨(h, pat), M, [], M, ha, g, fun _ z => (by cases z), .nil, .nil, .nil, fun d M' ⟨w, p, h1, h2, h3⟩ => by subst h2 h3; exact k w p h1, fun _ z => z.elim⟩
theorem cf_oldb {b : Box} (h : Hep) (ps : List (Val × Val)) (a : Addr) (ha : [h.d, .obj a] = ds) (g : Gd h) (kp : KeysP ps) (kf : ∀ v, v.yng = false → mvV ps v = v) (h1 : Pick M (a, b) M1) (hb : b.rb = .t (mapT ps)) (k : ∀ p, R (.obj p) ((p, .lst ((h.ol.map (tmv ps)).map Thing.d)) :: M)) : Cf A (fs_old_behind C) W ds G M R :=
  ⟨(h, ⟨ps, a⟩), M, [(a, b)], M1, ha, ⟨g, kp, kf⟩, fun _ z => (by cases z), .nil, .cons h1 .nil, .cons ⟨rfl, hb⟩ .nil, fun d M' ⟨p, h2, h3⟩ => by subst h2 h3; exact k p, fun _ z => z.elim⟩
theorem cf_pairs (pl : Int) (fs : List Val) (ha : [.int pl, row fs] = ds) (hl : fs.length ≤ 200) (k : ∀ p, R (.obj p) ((p, .lst ((pairsOf pl fs).map pairD)) :: M)) : Cf A (fs_pairs_of C) W ds G M R :=
  cf_n0 (rs := fun _ => []) (args := fun g : Int × List Val => [.int g.1, row g.2]) (pl, fs) ha rfl hl k
end
theorem near_ok {h : Hep} (g : Gd h) {w : List Val} (d : Near h w) : (∀ v ∈ w, okP h.yo.length h.ol.length v) ∧ w.length ≤ 4000 ∧ w.Nodup ∧ AllY w := by
  obtain ⟨k, rfl, _⟩ := id d
  have := bfs_ok g (p := Val.yng) (fun v z => yng_p z) (gd_firsts g) (k := k)
  exact ⟨this.1, this.2, d.nodup (nodup_meet .nil), bfs_yng⟩
theorem chosen_th {h : Hep} {w : List Val} {k : Int} (hk : k ∈ keptY h w) : 0 ≤ k ∧ h.yo[k.toNat]? = some (thingAt h.yo k) := by
  have := chosen_in k hk
  exact ⟨(inR_pos this).1, thingAt_get this⟩
theorem stay_snoc {c : Int → Bool} {ks : List Int} {i : Nat} {k : Int} (h : ks[i]? = some k) : stayOf c (ks.take (i + 1)) = stayOf c (ks.take i) ++ if c k = true then [] else [k] := by
  unfold stayOf
  rw [take_snoc h, List.filter_append]
  cases e : c k <;> simp [List.filter_cons, e]
theorem late_snoc {c : Int → Bool} {ks : List Int} {i : Nat} {k : Int} (h : ks[i]? = some k) : lateOf c (ks.take (i + 1)) = lateOf c (ks.take i) ++ if c k = true then [k] else [] := by
  unfold lateOf
  rw [take_snoc h, List.filter_append]
  cases e : c k <;> simp [List.filter_cons, e]
theorem numM_fresh {late : Int → Bool} {ks : List Int} {s l j : Nat} {k : Int} (hn : ks.Nodup) (h : ks[j]? = some k) : ∀ q ∈ numM late s l (ks.take j), q.1 ≠ .ptr .y k := fun q hq e => by
  have : q.1 ∈ (numM late s l (ks.take j)).map (·.1) := List.mem_map.mpr ⟨q, hq, rfl⟩
  rw [numM_keys] at this
  obtain ⟨k2, hk2, e2⟩ := List.mem_map.mp this
  rw [e] at e2
  injection e2 with _ e3
  obtain ⟨i, hi⟩ := List.getElem?_of_mem hk2
  have hij : i < j := by
    have := (List.getElem?_eq_some_iff.mp hi).1
    simp at this
    omega
  rw [List.getElem?_take_of_lt hij] at hi
  have hl := (List.getElem?_eq_some_iff.mp h).1
  have hli := (List.getElem?_eq_some_iff.mp hi).1
  have a1 := (List.getElem?_eq_some_iff.mp hi).2
  have a2 := (List.getElem?_eq_some_iff.mp h).2
  exact (List.pairwise_iff_getElem.mp hn) i j hli hl hij (a1.trans (e3.trans a2.symm))
theorem pr_new_places {K : PySem.W.Frag} {C : Exs} {vs : List V} {H : Hp} {Q : VK} {E : XK} (hsp : spOf K (fs_new_places C) vs H Q E) : t_new_places K C E { nx := fun _ H' => Q .non H', rt := Q } (L2.start n_new_places vs) H := by
  refine body_of (t := fun E => t_new_places K C E) hsp fun ⟨h, pat⟩ rb A nx rt E hK hp hr _ hF hN => ?_
  subst hK
  try dsimp only at hp hr
  cases hr
  unfold t_new_places
  show Ns A _ [some h.d, some (.int pat), none, none, none, none] []
  have g : Gd h := hp
  walk_at "go"
  refine w_dnewT fun p => ?_
  walk_at "go"
  refine ns_forTx ?_
  walk_at "go"
  refine cf_x h rfl g (fun d hd => ?_) fun _ z => z.elim
  obtain ⟨w, dw, rfl⟩ := hd
  have th : ∀ k ∈ keptY h w, 0 ≤ k ∧ h.yo[k.toNat]? = some (thingAt h.yo k) := fun k hk => chosen_th hk
  have nd : (keptY h w).Nodup := asc_nodup asc_chosen
  have lk : (keptY h w).length ≤ 2000 := by have := chosen_len (n := h.yo.length) (c := met? .y w); have := g.f.yo; show (chosen h.yo.length (met? .y w)).length ≤ 2000; omega
  obtain ⟨ks, eks⟩ : ∃ ks, ks = keptY h w := ⟨_, rfl⟩
  have ef : minQs h pat w = numM (isLate h pat) 0 h.ol.length ks := by rw [eks]; rfl
  rw [show chosen h.yo.length (met? .y w) = ks from eks.symm]
  rw [← eks] at th nd lk
  refine ⟨ks.map D.int, fun i G M => ∃ x, G = [some h.d, some (.int pat), some (.obj p), some (.int ((stayOf (isLate h pat) (ks.take i)).length : Int)), some (.int ((h.ol.length + (lateOf (isLate h pat) (ks.take i)).length : Nat) : Int)), x] ∧ M = [(p, .dt (mapT (numM (isLate h pat) 0 h.ol.length (ks.take i))))], rfl, ⟨none, rfl, rfl⟩, ?_, ?_⟩
  · rintro Hb ht i d _ _ hd ⟨x, rfl, rfl⟩
    obtain ⟨k, hk, rfl⟩ := map_get hd
    obtain ⟨k0, hkt⟩ := th k (List.mem_of_getElem? hk)
    have e1 := stay_snoc (c := isLate h pat) hk
    have e2 := late_snoc (c := isLate h pat) hk
    have e3 := numM_snoc (late := isLate h pat) (a := ks.take i) (s := 0) (l := h.ol.length) (k := k)
    rw [← take_snoc hk] at e3
    have fr := numM_fresh (late := isLate h pat) (s := 0) (l := h.ol.length) nd hk
    have kl : (mapT (numM (isLate h pat) 0 h.ol.length (ks.take i))).length < 10000000 := by
      unfold mapT
      rw [List.length_map, numM_len]
      simp
      omega
    have goal : ∀ b u, isLate h pat k = b → u = (if b = true then Val.ptr .o ((h.ol.length + (lateOf (isLate h pat) (ks.take i)).length : Nat) : Int) else Val.ptr .y ((stayOf (isLate h pat) (ks.take i)).length : Int)) →
        putD (mapT (numM (isLate h pat) 0 h.ol.length (ks.take i))) (keyV (.ptr .y k)) u.d = mapT (numM (isLate h pat) 0 h.ol.length (ks.take (i + 1))) := fun b u hb hu => by
      rw [put_mapT numM_p rfl fr, e3, hb, hu]
      cases b <;> simp
    walk_at "go"
    refine x_map k0 hkt ?_
    walk_at "go"
    refine split_dec (fun hl => ?_) (fun hl => ?_)
    · have hb : isLate h pat k = true := decide_eq_true hl
      rw [hb] at e1 e2
      refine ns_seq (ns_dput ?_)
      refine w_tup ?_
      walk_at "go"
      refine ⟨by simp, ?_⟩
      walk_at "go"
      refine w_tup ?_
      walk_at "go"
      refine ⟨by simp, p, _, rfl, .ofT (k := keyV (.ptr .y k)) rfl kl .here, ?_⟩
      have := goal true _ hb rfl
      rw [if_pos rfl] at this
      rw [show D.tup [D.str (Str.ofString "old"), D.int ((h.ol.length + (lateOf (isLate h pat) (ks.take i)).length : Nat) : Int)] = (Val.ptr .o ((h.ol.length + (lateOf (isLate h pat) (ks.take i)).length : Nat) : Int)).d from rfl, this]
      walk_at "go"
      refine ns_i ⟨some (.int k), ?_, rfl⟩
      rw [e1, e2]
      simp
      omega
    · have hb : isLate h pat k = false := decide_eq_false hl
      rw [hb] at e1 e2
      refine ns_seq (ns_dput ?_)
      refine w_tup ?_
      walk_at "go"
      refine ⟨by simp, ?_⟩
      walk_at "go"
      refine w_tup ?_
      walk_at "go"
      refine ⟨by simp, p, _, rfl, .ofT (k := keyV (.ptr .y k)) rfl kl .here, ?_⟩
      have := goal false _ hb rfl
      rw [if_neg (by simp)] at this
      rw [show D.tup [D.str (Str.ofString "young"), D.int ((stayOf (isLate h pat) (ks.take i)).length : Int)] = (Val.ptr .y ((stayOf (isLate h pat) (ks.take i)).length : Int)).d from rfl, this]
      walk_at "go"
      refine ns_i ⟨some (.int k), ?_, rfl⟩
      rw [e1, e2]
      simp
  · rintro _ _ ⟨x, rfl, rfl⟩
    rw [List.length_map, List.take_length, ← ef]
    walk_at "go"
    exact hF.1 _ _ _ [(p, .dt (mapT (minQs h pat w)))] ⟨w, p, dw, rfl, rfl⟩ (fun q hq => by cases List.mem_singleton.mp hq; rfl) ⟨_, .cons .here .nil⟩
theorem unbooked {h : Hep} (g : Gd h) {j : Nat} {t : Thing} (ht : h.ol[j]? = some t) (hn : ∀ r ∈ h.bk, r.1 ≠ (j : Int)) : ∀ v ∈ t.fs, v.yng = false := fun v hv => by
  cases e : v.yng with
  | false => rfl
  | true =>
    obtain ⟨k, hk⟩ := List.getElem?_of_mem hv
    exact absurd rfl (hn ((j : Int), (k : Int)) (by rw [g.s.bk]; exact mem_bookOf.mpr ⟨j, k, t, v, rfl, ht, hk, e⟩))
theorem tmv_id {ps : List (Val × Val)} {t : Thing} (h : ∀ v ∈ t.fs, mvV ps v = v) : tmv ps t = t := by
  unfold tmv
  rw [List.map_congr_left h, List.map_id']
theorem pr_old_behind {K : PySem.W.Frag} {C : Exs} {vs : List V} {H : Hp} {Q : VK} {E : XK} (hsp : spOf K (fs_old_behind C) vs H Q E) : t_old_behind K C E { nx := fun _ H' => Q .non H', rt := Q } (L2.start n_old_behind vs) H := by
  refine body_of (t := fun E => t_old_behind K C E) hsp fun ⟨h, ps, a⟩ rb A nx rt E hK hp hr _ hF hN => ?_
  subst hK
  try dsimp only at hp hr
  obtain ⟨b, rfl, hb, hw⟩ := rs1 hr
  unfold t_old_behind
  show Ns A _ [some h.d, some (.obj a), none, none, none] [(a, b)]
  obtain ⟨g, kp, kf⟩ := hp
  have g : Gd h := g
  have kf : ∀ v, v.yng = false → mvV ps v = v := kf
  walk_at "go"
  refine c_listT fun q => ?_
  walk_at "go"
  refine ns_forT (ds := h.bk.map pairD) (fun i G M => ∃ (L : List Thing) (x y : Option D), G = [some h.d, some (.obj a), some (.obj q), x, y] ∧ M = [(q, .lst (L.map Thing.d)), (a, b)] ∧ L.length = h.ol.length ∧ ∀ (j : Nat) t, h.ol[j]? = some t → L[j]? = some (tmv ps t) ∨ (L[j]? = some t ∧ ∀ r ∈ h.bk.take i, r.1 ≠ (j : Int))) ?_ ?_ ?_
  · walk_at "go"
    exact ⟨rfl, h.ol, none, none, rfl, rfl, rfl, fun j t ht => .inr ⟨ht, fun r hr => (by simp at hr)⟩⟩
  · rintro Hb ht i d _ _ hd ⟨L, x, y, rfl, rfl, hl, hL⟩
    obtain ⟨r, hr2, rfl⟩ := map_get hd
    obtain ⟨i2, k, t, er, h1, h2, h3⟩ := gd_booked g (List.mem_of_getElem? hr2)
    have e1 : r.1 = (i2 : Int) := by rw [er]
    have hi2 := (List.getElem?_eq_some_iff.mp h1).1
    walk_at "go"
    refine x_map (x := t) (by omega) (by rw [e1, show (i2 : Int).toNat = i2 by omega]; exact h1) ?_
    walk_at "go"
    refine ns_setL ?_
    refine w_tup ?_
    walk_at "go"
    refine cf_r1 (t.fs, ⟨ps, a⟩) rfl rfl (.there .here) hb ⟨kp, by have := g.f.fo t (List.mem_of_getElem? h1); show t.fs.length ≤ _; omega⟩ fun d hd => ?_
    subst hd
    walk_at "go"
    refine ⟨by simp, ?_⟩
    walk_at "go"
    refine ⟨q, _, r.1, i2, _, rfl, rfl, ?_, .here, ?_⟩
    · rw [e1, List.length_map]
      unfold ixN
      rw [if_pos (by omega), if_pos (by omega)]
      simp
    · refine ns_i ⟨L.set i2 (tmv ps t), _, _, rfl, ?_, by simp [hl], fun j t2 ht2 => ?_⟩
      · rw [List.map_set]
        rfl
      · by_cases ej : j = i2
        · subst ej
          rw [h1] at ht2
          cases ht2
          exact .inl (List.getElem?_set_self (by omega))
        · rw [List.getElem?_set_ne (fun z => ej z.symm)]
          rcases hL j t2 ht2 with z | ⟨z1, z2⟩
          · exact .inl z
          · refine .inr ⟨z1, fun r2 hr3 => ?_⟩
            rw [take_snoc hr2] at hr3
            rcases List.mem_append.mp hr3 with z3 | z3
            · exact z2 r2 z3
            · cases List.mem_singleton.mp z3
              rw [e1]
              omega
  rintro _ _ ⟨L, x, y, rfl, rfl, hl, hL⟩
  have eL : L = h.ol.map (tmv ps) := by
    refine List.ext_getElem? fun j => ?_
    by_cases hj : j < h.ol.length
    · have ht := List.getElem?_eq_getElem hj
      rw [List.getElem?_map, ht]
      rcases hL j _ ht with z | ⟨z1, z2⟩
      · rw [z]; rfl
      · rw [List.length_map, List.take_length] at z2
        rw [z1]
        have := tmv_id (ps := ps) fun v hv => kf v (unbooked g ht z2 v hv)
        show _ = some (tmv ps h.ol[j])
        rw [this]
    · rw [List.getElem?_eq_none (by omega), List.getElem?_eq_none (by simp; omega)]
  subst eL
  walk_at "go"
  exact hF.1 _ _ _ [(q, .lst ((h.ol.map (tmv ps)).map Thing.d))] ⟨q, rfl, rfl⟩ (fun q hq => by cases List.mem_singleton.mp hq; rfl) ⟨_, .cons .here .nil⟩

theorem booksAt_len {m : Nat} {l : List Thing} (h : ∀ t ∈ l, t.fs.length ≤ m) : ∀ {ns : List Int}, (booksAt l ns).length ≤ m * ns.length
  | [] => by simp [booksAt]
  | n :: ns => by
    have ih := booksAt_len h (ns := ns)
    show (pairsOf n (fsAt l n) ++ booksAt l ns).length ≤ m * (ns.length + 1)
    have h1 : (fsAt l n).length ≤ m := by
      unfold fsAt
      cases e : l[n.toNat]? with
      | none => exact Nat.zero_le _
      | some t => exact h t (List.mem_of_getElem? e)
    have h2 := pairsOf_len (place := n) (fs := fsAt l n)
    rw [List.length_append, Nat.mul_succ]
    omega
theorem booksAt_snoc {l : List Thing} {ns : List Int} {i : Nat} {n : Int} (h : ns[i]? = some n) : booksAt l (ns.take (i + 1)) = booksAt l (ns.take i) ++ pairsOf n (fsAt l n) := by
  rw [take_snoc h, booksAt_app]
  simp [booksAt]
/-- places from lo on -/
def upFrom (lo m : Nat) : List Int := (List.range m).map fun i : Nat => ((lo + i : Nat) : Int)
theorem upFrom_succ {lo m : Nat} : upFrom lo (m + 1) = upFrom lo m ++ [((lo + m : Nat) : Int)] := by
  unfold upFrom
  rw [List.range_succ, List.map_append]
  rfl
theorem mem_upFrom {lo m : Nat} {j : Int} : j ∈ upFrom lo m ↔ ∃ i : Nat, i < m ∧ j = ((lo + i : Nat) : Int) := by
  unfold upFrom
  simp only [List.mem_map, List.mem_range]
  exact ⟨fun ⟨i, h1, h2⟩ => ⟨i, h1, h2.symm⟩, fun ⟨i, h1, h2⟩ => ⟨i, h1, h2.symm⟩⟩
theorem asc_upFrom {lo m : Nat} : (upFrom lo m).Pairwise (· < ·) := by
  unfold upFrom
  rw [List.pairwise_map]
  refine List.Pairwise.imp (fun {a b} hab => ?_) List.pairwise_lt_range
  show ((lo + a : Nat) : Int) < ((lo + b : Nat) : Int)
  omega
theorem fsAt_some {l : List Thing} {j : Int} {t : Thing} (h : l[j.toNat]? = some t) : fsAt l j = t.fs := by unfold fsAt; rw [h]
theorem olds_eq {h : Hep} {pat : Int} {w : List Val} : olds h pat w = h.ol.map (tmv (minPs h pat w)) ++ (lateK h pat w).map fun k => tmv (minPs h pat w) (thingAt h.yo k) := by
  unfold olds
  rw [List.map_append, List.map_map]
  rfl
/-- the book of the old half anew: of the places that had any, and of the late ones -/
theorem min_book {h : Hep} {pat : Int} {w : List Val} (g : Gd h) {ns : List Int} (hr : ns.Pairwise (· < ·)) (hm : ∀ k, k ∈ ns ↔ k ∈ h.bk.map (·.1)) {m : Nat} (hl : (olds h pat w).length = h.ol.length + m) : booksAt (olds h pat w) (ns ++ upFrom h.ol.length m) = bookOf (olds h pat w) := by
  have lo : ∀ k ∈ ns, ∃ i : Nat, i < h.ol.length ∧ k = (i : Int) := fun k hk => by
    obtain ⟨r, hr, rfl⟩ := List.mem_map.mp ((hm k).mp hk)
    obtain ⟨i, j, t, er, h1, _, _⟩ := gd_booked g hr
    exact ⟨i, (List.getElem?_eq_some_iff.mp h1).1, by rw [er]⟩
  refine booksAt_eq (List.pairwise_append.mpr ⟨hr, asc_upFrom, fun a ha b hb => ?_⟩) (fun n hn => ?_) fun i k t v h1 h2 h3 => ?_
  · obtain ⟨i, hi, rfl⟩ := lo a ha
    obtain ⟨j, hj, rfl⟩ := mem_upFrom.mp hb
    omega
  · rcases List.mem_append.mp hn with z | z
    · obtain ⟨i, hi, rfl⟩ := lo n z
      exact inR_of (by omega) (by omega)
    · obtain ⟨j, hj, rfl⟩ := mem_upFrom.mp z
      exact inR_of (by omega) (by omega)
  · by_cases hi : i < h.ol.length
    · rw [olds_eq, List.getElem?_append_left (by simpa using hi), List.getElem?_map] at h1
      have ht := List.getElem?_eq_getElem hi
      rw [ht] at h1
      cases h1
      refine List.mem_append_left _ ((hm _).mpr ?_)
      have h2 : (h.ol[i].fs.map (mvV (minPs h pat w)))[k]? = some v := h2
      rw [List.getElem?_map] at h2
      cases e : h.ol[i].fs[k]? with
      | none => rw [e] at h2; cases h2
      | some u =>
        rw [e] at h2
        cases h2
        refine List.mem_map.mpr ⟨((i : Int), (k : Int)), ?_, rfl⟩
        rw [g.s.bk]
        exact mem_bookOf.mpr ⟨i, k, _, u, rfl, ht, e, mv_yng h3⟩
    · have := (List.getElem?_eq_some_iff.mp h1).1
      exact List.mem_append_right _ (mem_upFrom.mpr ⟨i - h.ol.length, by omega, by omega⟩)
theorem tmvQ {h : Hep} {pat : Int} {w : List Val} : tmv (minQs h pat w) = tmv (minPs h pat w) := by
  funext t
  unfold tmv
  rw [minQs_eq]
theorem olds_len {h : Hep} {pat : Int} {w : List Val} : (olds h pat w).length = h.ol.length + (lateK h pat w).length := by simp [olds]
theorem late_le {h : Hep} {pat : Int} {w : List Val} : (lateK h pat w).length ≤ h.yo.length := Nat.le_trans (List.length_filter_le _ _) chosen_len
theorem late_mem {h : Hep} {pat : Int} {w : List Val} {k : Int} (hk : k ∈ lateK h pat w) : 0 ≤ k ∧ h.yo[k.toNat]? = some (thingAt h.yo k) := chosen_th (List.mem_filter.mp hk).1
theorem stay_mem {h : Hep} {pat : Int} {w : List Val} {k : Int} (hk : k ∈ stayK h pat w) : 0 ≤ k ∧ h.yo[k.toNat]? = some (thingAt h.yo k) := chosen_th (List.mem_filter.mp hk).1
theorem olds_fs {h : Hep} {pat : Int} {w : List Val} {m : Nat} (h1 : ∀ t ∈ h.yo, t.fs.length ≤ m) (h2 : ∀ t ∈ h.ol, t.fs.length ≤ m) : ∀ t ∈ olds h pat w, t.fs.length ≤ m := fun t ht => by
  obtain ⟨u, hu, rfl⟩ := List.mem_map.mp ht
  have : (tmv (minPs h pat w) u).fs.length = u.fs.length := by simp [tmv]
  rw [this]
  rcases List.mem_append.mp hu with z | z
  · exact h2 u z
  · obtain ⟨k, hk, rfl⟩ := List.mem_map.mp z
    exact h1 _ (List.mem_of_getElem? (late_mem hk).2)
theorem pr_minor {K : PySem.W.Frag} {C : Exs} {vs : List V} {H : Hp} {Q : VK} {E : XK} (hsp : spOf K (fs_minor C) vs H Q E) : t_minor K C E { nx := fun _ H' => Q .non H', rt := Q } (L2.start n_minor vs) H := by
  refine body_of (t := fun E => t_minor K C E) hsp fun ⟨h, pat⟩ rb A nx rt E hK hp hr _ hF hN => ?_
  subst hK
  try dsimp only at hp hr
  cases hr
  unfold t_minor
  show Ns A _ [some h.d, some (.int pat), none, none, none, none, none, none, none, none] []
  have g : Gd h := hp
  walk_at "go"
  refine cf_newpl h pat rfl g fun w p dw => ?_
  walk_at "go"
  refine w_lst ?_
  walk_at "go"
  refine ⟨by simp, fun y => ?_⟩
  walk_at "go"
  refine cf_oldb h (minQs h pat w) p rfl g minQs_p (fun v hv => by rw [minQs_eq]; exact min_fix hv) (.there .here) rfl fun q => ?_
  rw [tmvQ]
  walk_at "go"
  refine ns_forTx ?_
  walk_at "go"
  refine cf_x h rfl g (fun d hd => ?_) fun _ z => z.elim
  obtain ⟨w2, dw2, rfl⟩ := hd
  have ew := dw2.uniq dw
  subst ew
  have th : ∀ k ∈ keptY h w2, 0 ≤ k ∧ h.yo[k.toNat]? = some (thingAt h.yo k) := fun k hk => chosen_th hk
  have lk : (keptY h w2).length ≤ 2000 := by have := chosen_len (n := h.yo.length) (c := met? .y w2); have := g.f.yo; show (chosen h.yo.length (met? .y w2)).length ≤ 2000; omega
  have mb := fun ns m => min_book (pat := pat) (w := w2) g (ns := ns) (m := m)
  have ol := olds_len (h := h) (pat := pat) (w := w2)
  have ll := late_le (h := h) (pat := pat) (w := w2)
  have of := olds_fs (h := h) (pat := pat) (w := w2) g.f.fy g.f.fo
  have oe := olds_eq (h := h) (pat := pat) (w := w2)
  have key : ∀ d, d = (⟨(stayK h pat w2).map fun k => grown (minPs h pat w2) (thingAt h.yo k), olds h pat w2, h.ro.map (mvV (minPs h pat w2)), bookOf (olds h pat w2)⟩ : Hep).d → (∃ w, Near h w ∧ d = (minorH h pat w).d) := fun d e => ⟨w2, dw2, e⟩
  have eQ := minQs_eq (h := h) (pat := pat) (w := w2)
  have kQ := minQs_p (h := h) (pat := pat) (w := w2)
  have gy := g.f.yo
  have go := g.f.ol
  have gr := g.f.ro
  rw [show chosen h.yo.length (met? .y w2) = keptY h w2 from rfl]
  generalize minPs h pat w2 = ps at oe key eQ
  generalize minQs h pat w2 = qs at eQ kQ
  generalize olds h pat w2 = OL at mb ol of oe key
  unfold stayK at key
  unfold lateK at ol ll oe
  generalize keptY h w2 = ks at th lk ol ll oe key
  refine ⟨ks.map D.int, fun i G M => ∃ x6 x7 x8, G = [some h.d, some (.int pat), some (.obj p), some (.obj y), some (.obj q), none, x6, x7, x8, none] ∧
    M = [(q, .lst ((h.ol.map (tmv ps) ++ (lateOf (isLate h pat) (ks.take i)).map fun k => tmv ps (thingAt h.yo k)).map Thing.d)), (y, .lst (((stayOf (isLate h pat) (ks.take i)).map fun k => grown ps (thingAt h.yo k)).map Thing.d)), (p, .dt (mapT qs))], rfl, ⟨none, none, none, rfl, by simp⟩, ?_, ?_⟩
  · rintro Hb ht i d _ _ hd ⟨x6, x7, x8, rfl, rfl⟩
    obtain ⟨k, hk, rfl⟩ := map_get hd
    obtain ⟨k0, hkt⟩ := th k (List.mem_of_getElem? hk)
    have e1 := stay_snoc (c := isLate h pat) hk
    have e2 := late_snoc (c := isLate h pat) hk
    have sl : (stayOf (isLate h pat) (ks.take i)).length ≤ 2000 := Nat.le_trans (List.length_filter_le _ _) (by simp; omega)
    have la : (lateOf (isLate h pat) (ks.take i)).length ≤ 2000 := Nat.le_trans (List.length_filter_le _ _) (by simp; omega)
    walk_at "go"
    refine x_map k0 hkt ?_
    walk_at "go"
    refine x_map k0 hkt ?_
    walk_at "go"
    refine cf_r1 ((thingAt h.yo k).fs, ⟨qs, p⟩) rfl rfl (.there (.there .here)) rfl ⟨kQ, by have := g.f.fy _ (List.mem_of_getElem? hkt); show (thingAt h.yo k).fs.length ≤ _; omega⟩ fun d hd => ?_
    subst hd
    rw [eQ]
    walk_at "go"
    refine split_dec (fun hl => ?_) (fun hl => ?_)
    · have hb : isLate h pat k = true := decide_eq_true hl
      rw [hb] at e1 e2
      walk_at "go"
      refine w_append ?_
      walk_at "go"
      refine ⟨q, _, rfl, mem0, ?_⟩
      refine w_tup ?_
      walk_at "go"
      refine ⟨by simp, _, _, .here, by simp; omega, ns_i ⟨_, _, _, rfl, ?_⟩⟩
      rw [e1, e2]
      simp [tmv, Thing.d]
    · have hb : isLate h pat k = false := decide_eq_false hl
      rw [hb] at e1 e2
      walk_at "go"
      refine w_append ?_
      walk_at "go"
      refine ⟨y, _, rfl, mem1, ?_⟩
      refine w_tup ?_
      walk_at "go"
      refine ⟨by simp, _, _, .there .here, by simp; omega, ns_i ⟨_, _, _, rfl, ?_⟩⟩
      rw [e1, e2]
      simp [grown, Thing.d]
  rintro _ _ ⟨x6, x7, x8, rfl, rfl⟩
  rw [List.length_map, List.take_length, ← oe]
  generalize eYO : ((stayOf (isLate h pat) ks).map fun k => grown ps (thingAt h.yo k)) = YO at key
  walk_at "go"
  refine w_lst ?_
  walk_at "go"
  refine ⟨by simp, fun b => ?_⟩
  walk_at "go"
  refine ns_forLx (w_sortSet (wa_cons ?_))
  refine w_lcTP (xs := h.bk.map pairD) (fun i e => ∀ r, h.bk[i]? = some r → e = .int r.1) ?_
  have bl := bk_len g
  walk_at "go"
  refine ⟨rfl, by rw [List.length_map]; omega, fun Hb ht c i acc d hd => ?_, fun c acc hl hP => ?_⟩
  · obtain ⟨r, hr2, rfl⟩ := map_get hd
    walk_at "go"
    refine ⟨fun r2 hr3 => ?_, .refl _⟩
    rw [hr2] at hr3
    cases hr3
    rfl
  have ea := all_of (f := D.int) (g := fun r : Int × Int => r.1) (bs := h.bk) (acc := acc) (by rw [hl, List.length_map]) fun i e v h1 h2 => hP i e h1 v h2
  subst ea
  have inr : ∀ k ∈ h.bk.map (·.1), ∃ i : Nat, i < h.ol.length ∧ k = (i : Int) := fun k hk => by
    obtain ⟨r, hr, rfl⟩ := List.mem_map.mp hk
    obtain ⟨i, j, t, er, h1, _, _⟩ := gd_booked g hr
    exact ⟨i, (List.getElem?_eq_some_iff.mp h1).1, by rw [er]⟩
  refine wa_nil ⟨c, _, h.bk.map (·.1), (List.range 2000).map fun i : Nat => (i : Int), rfl, mem0, rfl, by simp, fun k hk => ?_, fun l ns hr hm => ?_⟩
  · obtain ⟨i, hi, rfl⟩ := inr k hk
    exact List.mem_map.mpr ⟨i, List.mem_range.mpr (by omega), rfl⟩
  have nsl : ns.length ≤ 2000 := by
    have := nodup_le (asc_nodup hr) (b := (List.range 2000).map fun i : Nat => (i : Int)) fun k hk => by
      obtain ⟨i, hi, rfl⟩ := inr k ((hm k).mp hk)
      exact List.mem_map.mpr ⟨i, List.mem_range.mpr (by omega), rfl⟩
    simpa using this
  have bkl : ∀ ns : List Int, (booksAt OL ns).length ≤ 200 * ns.length := fun ns => booksAt_len of
  refine ⟨l, ns.map D.int, fun i G M => ∃ x8, G = [some h.d, some (.int pat), some (.obj p), some (.obj y), some (.obj q), some (.obj b), x6, x7, x8, none] ∧
    M = [(l, .lst (ns.map D.int)), (c, .lst ((h.bk.map (·.1)).map D.int)), (b, .lst ((booksAt OL (ns.take i)).map pairD)), (q, .lst (OL.map Thing.d)), (y, .lst (YO.map Thing.d)), (p, .dt (mapT qs))], rfl, ⟨_, rfl, rfl⟩, ?_, ?_, ?_⟩
  · rintro i _ _ ⟨x8, rfl, rfl⟩
    exact ⟨_, mem0, rfl⟩
  · rintro i d _ _ hd ⟨x8, rfl, rfl⟩
    obtain ⟨n, hn, rfl⟩ := map_get hd
    obtain ⟨j, hj, rfl⟩ := inr n ((hm n).mp (List.mem_of_getElem? hn))
    obtain ⟨t, htt⟩ : ∃ t, OL[j]? = some t := ⟨_, List.getElem?_eq_getElem (by omega)⟩
    have tl := of t (List.mem_of_getElem? htt)
    have s := booksAt_snoc (l := OL) hn
    rw [fsAt_some (t := t) (by rw [show (j : Int).toNat = j by omega]; exact htt)] at s
    walk_at "go"
    refine w_extend ?_
    walk_at "go"
    refine ⟨b, _, rfl, mem2, ?_⟩
    walk_at "go"
    refine x_lmap (b := .lst _) mem3 rfl (by omega) (by rw [show (j : Int).toNat = j by omega]; exact htt) ?_
    walk_at "go"
    refine cf_pairs (j : Int) t.fs rfl tl fun e => ?_
    refine ⟨e, _, _, _, rfl, mem0, .there (.there (.there .here)), ?_, ?_⟩
    · have h1 := bkl (ns.take i)
      have h2 : (ns.take i).length ≤ 2000 := by simp; omega
      have h3 := pairsOf_len (place := (j : Int)) (fs := t.fs)
      simp only [List.length_map]
      omega
    · refine ns_iS (.cons _ (.refl _)) ⟨_, rfl, ?_⟩
      rw [s]
      simp
  rintro _ _ ⟨x8, rfl, rfl⟩
  rw [List.length_map, List.take_length]
  walk_at "go"
  refine ns_forR2 (lo := (h.ol.length : Int)) (n := (OL.length : Int)) (fun i G M => ∃ x8, G = [some h.d, some (.int pat), some (.obj p), some (.obj y), some (.obj q), some (.obj b), x6, x7, x8, none] ∧
    M = [(l, .lst (ns.map D.int)), (c, .lst ((h.bk.map (·.1)).map D.int)), (b, .lst ((booksAt OL (ns ++ upFrom h.ol.length i)).map pairD)), (q, .lst (OL.map Thing.d)), (y, .lst (YO.map Thing.d)), (p, .dt (mapT qs))]) ?_ ?_ ?_
  · walk_at "go"
    refine n_lmap (b := .lst _) mem3 rfl ?_
    walk_at "go"
    exact ⟨rfl, ⟨by omega, by omega, by omega, by omega⟩, _, rfl, by simp [upFrom]⟩
  · rintro i _ _ hi ⟨x8, rfl, rfl⟩
    obtain ⟨t, htt⟩ : ∃ t, OL[h.ol.length + i]? = some t := ⟨_, List.getElem?_eq_getElem (by omega)⟩
    have tl := of t (List.mem_of_getElem? htt)
    have ej : (h.ol.length : Int) + (i : Int) = ((h.ol.length + i : Nat) : Int) := by omega
    have s : booksAt OL (ns ++ upFrom h.ol.length (i + 1)) = booksAt OL (ns ++ upFrom h.ol.length i) ++ pairsOf ((h.ol.length + i : Nat) : Int) t.fs := by
      rw [upFrom_succ, ← List.append_assoc, booksAt_app (a := ns ++ upFrom h.ol.length i)]
      congr 1
      show pairsOf _ (fsAt OL _) ++ [] = _
      rw [fsAt_some (t := t) (by rw [show ((h.ol.length + i : Nat) : Int).toNat = h.ol.length + i by omega]; exact htt), List.append_nil]
    rw [ej]
    walk_at "go"
    refine w_extend ?_
    walk_at "go"
    refine ⟨b, _, rfl, mem2, ?_⟩
    walk_at "go"
    refine x_lmap (b := .lst _) mem3 rfl (by omega) (by rw [show ((h.ol.length + i : Nat) : Int).toNat = h.ol.length + i by omega]; exact htt) ?_
    walk_at "go"
    refine cf_pairs ((h.ol.length + i : Nat) : Int) t.fs rfl tl fun e => ?_
    refine ⟨e, _, _, _, rfl, mem0, .there (.there (.there .here)), ?_, ?_⟩
    · have h1 := bkl (ns ++ upFrom h.ol.length i)
      have h2 : (ns ++ upFrom h.ol.length i).length ≤ 4000 := by simp [upFrom]; omega
      have h3 := pairsOf_len (place := ((h.ol.length + i : Nat) : Int)) (fs := t.fs)
      simp only [List.length_map]
      omega
    · refine ns_iS (.cons _ (.refl _)) ⟨_, rfl, ?_⟩
      rw [s]
      simp
  rintro _ _ ⟨x8, rfl, rfl⟩
  rw [mb ns ((OL.length : Int) - (h.ol.length : Int)).toNat hr hm (by omega)]
  walk_at "go"
  refine w_tup ?_
  walk_at "go"
  refine c_tupL (b := .lst _) mem4 rfl ?_
  walk_at "go"
  refine c_tupL (b := .lst _) mem3 rfl ?_
  walk_at "go"
  refine cf_r1 (h.ro, ⟨qs, p⟩) rfl rfl (.there (.there (.there (.there (.there .here))))) rfl ⟨kQ, by show h.ro.length ≤ _; omega⟩ fun d hd => ?_
  subst hd
  rw [eQ]
  walk_at "go"
  refine c_tupL (b := .lst _) mem2 rfl ?_
  walk_at "go"
  exact ⟨by simp, fin0 hF ⟨key _ rfl, rfl⟩⟩

section
variable {A : Am} {C : Exs} {W : L2.St → XK} {G : Gm} {M M1 : Bxs} {R : D → Bxs → Prop} {ds : List D}
end
abbrev tMet7 (K : PySem.W.Frag) : TS := tIfS (tAnd (tB (tCB (rIsi K) (tCons (tVar 6) (tCons (tC (.ty "tuple")) tNil)))) (tAnd (tB (tDNotIn (tVar 6) (tVar 2))) (tTest (tOp (rEqD K) (tOp (rIx K) (tVar 6) (tC (.int 0))) (tC (.str "young"))))))
      (tSeq (sDPut (tVar 2) (tVar 6) (tC (.bl true))) (tDrop (tBM K "list" rAppend (tVar 3) (tCons (tVar 6) tNil)))) tNext
section
variable {A : Am} {G : Gm} {M : Bxs} {R : D → Bxs → Prop} {te : TE}
end
theorem okP_isP {ny no : Nat} {v : Val} (h : okP ny no v) : v.isP = true := by rcases h with ⟨p, _, rfl⟩ | ⟨p, _, rfl⟩ <;> rfl
/-- pictures of pictures -/
theorem Emb.comp {f : Val → List Val} {Q Q2 : Val → Prop} {φ φ2 : Val → Val} {h h2 : Hep} (a : Emb f Q φ h) (b : Emb h.fsOf Q2 φ2 h2) : Emb f (fun v => Q v ∧ Q2 (φ v)) (fun v => φ2 (φ v)) h2 where
  fix := fun v hv => by rw [a.fix v hv, b.fix v hv]
  isP := fun v hv => a.isP v hv.1
  ok := fun v hv => b.ok _ hv.2
  inj := fun u v hu hv e => a.inj u v hu.1 hv.1 (b.inj _ _ hu.2 hv.2 e)
  step := fun v hv => by rw [b.step _ hv.2, a.step _ hv.1, List.map_map]; rfl
  cl := fun v hv u hu hp => by
    have h1 := a.cl v hv.1 u hu hp
    refine ⟨h1, b.cl _ hv.2 (φ u) ?_ (okP_isP (a.ok u h1))⟩
    rw [a.step v hv.1]
    exact List.mem_map.mpr ⟨u, hu, rfl⟩
theorem Emb.isP_iff {f : Val → List Val} {Q : Val → Prop} {φ : Val → Val} {h : Hep} (a : Emb f Q φ h) {v : Val} (hv : v.isP = true → Q v) : (φ v).isP = v.isP := by
  cases e : v.isP with
  | false => rw [a.fix v e, e]
  | true => exact okP_isP (a.ok v (hv e))
/-! ### where things go -/
theorem numW_get {o : Wd} {ks : List Int} {i j : Nat} {k : Int} {ps : List (Val × Val)} (hn : (ps.map (·.1)).Nodup) (hs : ∀ q ∈ numW o i ks, q ∈ ps) (h : ks[j]? = some k) : mvV ps (.ptr .y k) = .ptr o ((i + j : Nat) : Int) := by
  unfold mvV
  rw [lookV_some hn (hs _ (numW_mem h))]
  rfl
theorem near_y {h : Hep} (g : Gd h) {w : List Val} (d : Near h w) {v : Val} (hv : v ∈ w) : ∃ p : Nat, p < h.yo.length ∧ v = .ptr .y (p : Int) ∧ (p : Int) ∈ keptY h w := by
  obtain ⟨k, rfl, _⟩ := id d
  have h1 := (bfs_ok g (p := Val.yng) (fun v z => yng_p z) (gd_firsts g) (k := k)).1 v hv
  have h2 := bfs_yng (h := h) v hv
  obtain ⟨p, hp, rfl⟩ := okP_y h1 h2
  exact ⟨p, hp, rfl, mem_chosen.mpr ⟨p, hp, decide_eq_true hv, rfl⟩⟩
theorem kept_near {h : Hep} {w : List Val} {k : Int} (hk : k ∈ keptY h w) : ∃ p : Nat, p < h.yo.length ∧ k = (p : Int) ∧ Val.ptr .y k ∈ w := by
  obtain ⟨p, hp, hm, rfl⟩ := mem_chosen.mp hk
  exact ⟨p, hp, rfl, of_decide_eq_true hm⟩
section
variable {h : Hep} {pat : Int} {w : List Val}
theorem mv_stay {j : Nat} {k : Int} (hk : (stayK h pat w)[j]? = some k) : mvV (minPs h pat w) (.ptr .y k) = .ptr .y (j : Int) := by
  have := numW_get (o := .y) (i := 0) minPs_nodup (fun q hq => List.mem_append_left _ hq) hk
  rwa [Nat.zero_add] at this
theorem mv_late {j : Nat} {k : Int} (hk : (lateK h pat w)[j]? = some k) : mvV (minPs h pat w) (.ptr .y k) = .ptr .o ((h.ol.length + j : Nat) : Int) :=
  numW_get (o := .o) (i := h.ol.length) minPs_nodup (fun q hq => List.mem_append_right _ hq) hk
/-- one that stays or one that is late -/
theorem kept_or {k : Int} (hk : k ∈ keptY h w) : (∃ j : Nat, (stayK h pat w)[j]? = some k ∧ isLate h pat k = false) ∨ ∃ j : Nat, (lateK h pat w)[j]? = some k ∧ isLate h pat k = true := by
  cases e : isLate h pat k with
  | true =>
    obtain ⟨j, hj⟩ := List.getElem?_of_mem (List.mem_filter.mpr ⟨hk, e⟩)
    exact .inr ⟨j, hj, rfl⟩
  | false =>
    obtain ⟨j, hj⟩ := List.getElem?_of_mem (List.mem_filter.mpr ⟨hk, by rw [e]; rfl⟩ : k ∈ stayK h pat w)
    exact .inl ⟨j, hj, rfl⟩
theorem stay_at {j : Nat} {k : Int} (hk : (stayK h pat w)[j]? = some k) : (minorH h pat w).yo[j]? = some (grown (minPs h pat w) (thingAt h.yo k)) := by
  show ((stayK h pat w).map _)[j]? = _
  rw [List.getElem?_map, hk]
  rfl
theorem late_at {j : Nat} {k : Int} (hk : (lateK h pat w)[j]? = some k) : (minorH h pat w).ol[h.ol.length + j]? = some (tmv (minPs h pat w) (thingAt h.yo k)) := by
  show (olds h pat w)[h.ol.length + j]? = _
  rw [olds_eq, List.getElem?_append_right (by simp)]
  simp [hk]
theorem old_at {j : Nat} {t : Thing} (ht : h.ol[j]? = some t) : (minorH h pat w).ol[j]? = some (tmv (minPs h pat w) t) := by
  show (olds h pat w)[j]? = _
  have := (List.getElem?_eq_some_iff.mp ht).1
  rw [olds_eq, List.getElem?_append_left (by simpa using this), List.getElem?_map, ht]
  rfl
theorem keepM_ok (g : Gd h) (d : Near h w) {v : Val} (hv : KeepM h w v) : okP h.yo.length h.ol.length v := by
  rcases hv with ⟨p, hp, rfl⟩ | hv
  · exact .inr ⟨p, hp, rfl⟩
  · exact (near_ok g d).1 v hv
theorem fsOf_at {o : Wd} {p : Nat} {t : Thing} {h : Hep} (ht : (h.half o)[p]? = some t) : h.fsOf (.ptr o (p : Int)) = t.fs := by
  show fsAt (h.half o) (p : Int) = t.fs
  exact fsAt_some (by rw [show (p : Int).toNat = p by omega]; exact ht)
/-- a field of what is kept is kept -/
theorem keepM_cl (g : Gd h) (d : Near h w) {v : Val} (hv : KeepM h w v) : ∀ u ∈ h.fsOf v, u.isP = true → KeepM h w u := fun u hu hp => by
  have ok := gd_step g v (keepM_ok g d hv) u hu hp
  rcases ok with ⟨q, hq, rfl⟩ | ⟨q, hq, rfl⟩
  · refine .inr ?_
    rcases hv with ⟨p, hlt, rfl⟩ | hv
    · have ht := List.getElem?_eq_getElem hlt
      have e := fsOf_at (h := h) (o := .o) (p := p) ht
      rw [e] at hu
      obtain ⟨k, hk⟩ := List.getElem?_of_mem hu
      have hb : ((p : Int), (k : Int)) ∈ h.bk := by rw [g.s.bk]; exact mem_bookOf.mpr ⟨p, k, _, _, rfl, ht, hk, rfl⟩
      obtain ⟨i2, k2, t2, e2, h3, h4, h5⟩ := gd_booked g hb
      injection e2 with e3 e4
      have e3 : p = i2 := by omega
      have e4 : k = k2 := by omega
      subst e3 e4
      rw [ht] at h3
      cases h3
      rw [hk] at h4
      injection h4 with h4
      refine d.start (mem_meet.mpr (.inr ⟨List.mem_append_right _ (List.mem_map.mpr ⟨_, hb, h4.symm⟩), rfl⟩))
    · exact d.closed hv hu rfl
  · exact .inl ⟨q, hq, rfl⟩
theorem keepM_root (g : Gd h) (d : Near h w) {v : Val} (hv : v ∈ h.ro) (hp : v.isP = true) : KeepM h w v := by
  have ok := okP_of (g.s.ro v hv).1 (g.s.ro v hv).2 hp
  rcases ok with ⟨q, hq, rfl⟩ | ⟨q, hq, rfl⟩
  · exact .inr (d.start (mem_meet.mpr (.inr ⟨List.mem_append_left _ hv, rfl⟩)))
  · exact .inl ⟨q, hq, rfl⟩
/-- where what is kept goes, its age and fields -/
theorem min_goes (g : Gd h) (d : Near h w) {v : Val} (hv : KeepM h w v) : ∃ (o o2 : Wd) (p p2 : Nat) (t t2 : Thing), v = .ptr o (p : Int) ∧ (o = .y ∨ o = .o) ∧ (h.half o)[p]? = some t ∧ mvV (minPs h pat w) v = .ptr o2 (p2 : Int) ∧ (o2 = .y ∨ o2 = .o) ∧
    ((minorH h pat w).half o2)[p2]? = some t2 ∧ t2.fs = t.fs.map (mvV (minPs h pat w)) ∧ (o2 = .o ↔ (o = .o ∨ pat ≤ t.age)) ∧ t2.age = (if o = .y ∧ t.age < pat then t.age + 1 else t.age) := by
  rcases hv with ⟨p, hlt, rfl⟩ | hv
  · have ht := List.getElem?_eq_getElem hlt
    refine ⟨.o, .o, p, p, _, _, rfl, .inr rfl, ht, min_fix rfl, .inr rfl, old_at ht, rfl, ⟨fun _ => .inl rfl, fun _ => rfl⟩, ?_⟩
    rw [if_neg (fun z => (nomatch z.1))]
    rfl
  · obtain ⟨p, hp, rfl, hk⟩ := near_y g d hv
    have ht := (chosen_th hk).2
    rw [show ((p : Int)).toNat = p by omega] at ht
    rcases kept_or (pat := pat) hk with ⟨j, hj, hl⟩ | ⟨j, hj, hl⟩
    · have lt : (thingAt h.yo (p : Int)).age < pat := Int.not_le.mp (of_decide_eq_false hl)
      refine ⟨.y, .y, p, j, _, _, rfl, .inl rfl, ht, mv_stay hj, .inl rfl, stay_at hj, rfl, ⟨fun z => (nomatch z), fun z => z.elim (fun z => (nomatch z)) fun z => by omega⟩, ?_⟩
      rw [if_pos ⟨rfl, lt⟩]
      rfl
    · have le : pat ≤ (thingAt h.yo (p : Int)).age := of_decide_eq_true hl
      refine ⟨.y, .o, p, h.ol.length + j, _, _, rfl, .inl rfl, ht, mv_late hj, .inr rfl, late_at hj, rfl, ⟨fun _ => .inr le, fun _ => rfl⟩, ?_⟩
      rw [if_neg (fun z => by omega)]
      rfl
theorem min_inj (g : Gd h) (d : Near h w) {u v : Val} (hu : KeepM h w u) (hv : KeepM h w v) (e : mvV (minPs h pat w) u = mvV (minPs h pat w) v) : u = v := by
  have nd : (keptY h w).Nodup := asc_nodup asc_chosen
  have ndS : (stayK h pat w).Nodup := nd.sublist List.filter_sublist
  have ndL : (lateK h pat w).Nodup := nd.sublist List.filter_sublist
  have go : ∀ {v}, KeepM h w v → (∃ p : Nat, p < h.ol.length ∧ v = .ptr .o (p : Int) ∧ mvV (minPs h pat w) v = .ptr .o (p : Int)) ∨ (∃ (j : Nat) (k : Int), v = .ptr .y k ∧ (stayK h pat w)[j]? = some k ∧ mvV (minPs h pat w) v = .ptr .y (j : Int)) ∨
      ∃ (j : Nat) (k : Int), v = .ptr .y k ∧ (lateK h pat w)[j]? = some k ∧ mvV (minPs h pat w) v = .ptr .o ((h.ol.length + j : Nat) : Int) := fun {v} hv => by
    rcases hv with ⟨p, hlt, rfl⟩ | hv
    · exact .inl ⟨p, hlt, rfl, min_fix rfl⟩
    · obtain ⟨p, hp, rfl, hk⟩ := near_y g d hv
      rcases kept_or (pat := pat) hk with ⟨j, hj, hl⟩ | ⟨j, hj, hl⟩
      · exact .inr (.inl ⟨j, _, rfl, hj, mv_stay hj⟩)
      · exact .inr (.inr ⟨j, _, rfl, hj, mv_late hj⟩)
  rcases go hu with ⟨p, h1, rfl, h2⟩ | ⟨j, k, rfl, h1, h2⟩ | ⟨j, k, rfl, h1, h2⟩ <;> rcases go hv with ⟨p', h3, rfl, h4⟩ | ⟨j', k', rfl, h3, h4⟩ | ⟨j', k', rfl, h3, h4⟩ <;> rw [h2, h4] at e <;> injection e with e1 e2
  · rw [e2]
  · cases e1
  · omega
  · cases e1
  · have : j = j' := by omega
    subst this
    rw [h1] at h3
    cases h3
    rfl
  · cases e1
  · omega
  · cases e1
  · have : j = j' := by omega
    subst this
    rw [h1] at h3
    cases h3
    rfl
theorem okP_half {h : Hep} {o : Wd} {p : Nat} {t : Thing} (ho : o = .y ∨ o = .o) (ht : (h.half o)[p]? = some t) : okP h.yo.length h.ol.length (.ptr o (p : Int)) := by
  have := (List.getElem?_eq_some_iff.mp ht).1
  rcases ho with rfl | rfl
  · exact .inl ⟨p, this, rfl⟩
  · exact .inr ⟨p, this, rfl⟩
theorem minor_emb (g : Gd h) (d : Near h w) : Emb h.fsOf (KeepM h w) (mvV (minPs h pat w)) (minorH h pat w) where
  fix := fun v hv => min_fix (by cases v with | ptr _ _ => cases hv | _ => rfl)
  isP := fun v hv => okP_isP (keepM_ok g d hv)
  ok := fun v hv => by
    obtain ⟨o, o2, p, p2, t, t2, _, _, _, e, ho, ht, _⟩ := min_goes (pat := pat) g d hv
    rw [e]
    exact okP_half ho ht
  inj := fun u v hu hv e => min_inj g d hu hv e
  step := fun v hv => by
    obtain ⟨o, o2, p, p2, t, t2, rfl, _, h1, e, ho, ht, hf, _⟩ := min_goes (pat := pat) g d hv
    rw [e, fsOf_at ht, fsOf_at h1, hf]
  cl := fun v hv => keepM_cl g d hv
end
/-! ### sound behind -/
theorem okV_pic {h : Hep} {v : Val} (hp : v.isP = true → okP h.yo.length h.ol.length v) : h.okV v = true ∧ v.yo = true := by
  cases v with
  | non => exact ⟨rfl, rfl⟩
  | num i => exact ⟨rfl, rfl⟩
  | ptr o p =>
    rcases hp rfl with ⟨q, hq, e⟩ | ⟨q, hq, e⟩
    · injection e with e1 e2
      subst e1 e2
      refine ⟨?_, rfl⟩
      show inR (q : Int) h.yo.length = true
      exact inR_of (by omega) (by omega)
    · injection e with e1 e2
      subst e1 e2
      refine ⟨?_, rfl⟩
      show inR (q : Int) h.ol.length = true
      exact inR_of (by omega) (by omega)
section
variable {h : Hep} {pat : Int} {w : List Val}
theorem minor_snd (g : Gd h) (d : Near h w) : Snd (minorH h pat w) := by
  have em := minor_emb (pat := pat) g d
  have row : ∀ vs : List Val, (∀ u ∈ vs, u.isP = true → KeepM h w u) → ∀ v ∈ vs.map (mvV (minPs h pat w)), (minorH h pat w).okV v = true ∧ v.yo = true := fun vs hk v hv => by
    obtain ⟨u, hu, rfl⟩ := List.mem_map.mp hv
    refine okV_pic fun hp => em.ok u (hk u hu ?_)
    cases e : u.isP with
    | true => rfl
    | false => rw [em.fix u e, e] at hp; cases hp
  refine ⟨row _ fun u hu hp => keepM_root g d hu hp, fun t ht => ?_, fun t ht => ?_, rfl⟩
  · obtain ⟨k, hk, rfl⟩ := List.mem_map.mp ht
    obtain ⟨p, _, e, hm⟩ := kept_near (List.mem_filter.mp hk).1
    refine row _ fun u hu hp => keepM_cl g d (.inr hm) u ?_ hp
    subst e
    rw [fsOf_at (o := .y) (p := p) (by have := (stay_mem hk).2; rwa [show (p : Int).toNat = p by omega] at this)]
    exact hu
  · obtain ⟨u0, hu0, rfl⟩ := List.mem_map.mp ht
    rcases List.mem_append.mp hu0 with z | z
    · obtain ⟨i, hi⟩ := List.getElem?_of_mem z
      refine row _ fun u hu hp => keepM_cl g d (.inl ⟨i, (List.getElem?_eq_some_iff.mp hi).1, rfl⟩) u ?_ hp
      rw [fsOf_at (o := .o) hi]
      exact hu
    · obtain ⟨k, hk, rfl⟩ := List.mem_map.mp z
      obtain ⟨p, _, e, hm⟩ := kept_near (List.mem_filter.mp hk).1
      refine row _ fun u hu hp => keepM_cl g d (.inr hm) u ?_ hp
      subst e
      rw [fsOf_at (o := .y) (p := p) (by have := (late_mem hk).2; rwa [show (p : Int).toNat = p by omega] at this)]
      exact hu
end

theorem look_there {φ : Val → Val} {v : Val} (hv : v.isP = true) : ∀ {w : List Val}, AllP w → lookD (thereT φ w) (keyV v) = if v ∈ w then some (φ v).d else none
  | [], _ => rfl
  | x :: w, h => by
    have ih := look_there hv (φ := φ) (w := w) fun y hy => h y (List.mem_cons_of_mem _ hy)
    by_cases e : x = v
    · subst e
      simp [lookD, thereT]
    · have ne : keyV x ≠ keyV v := fun z => e (keyV_inj (h x List.mem_cons_self) hv z)
      have ne2 : v ≠ x := fun z => e z.symm
      have e1 : lookD (thereT φ (x :: w)) (keyV v) = lookD (thereT φ w) (keyV v) := by simp [lookD, thereT, ne]
      rw [e1, ih]
      by_cases hm : v ∈ w
      · simp [hm]
      · simp [hm, ne2]
theorem put_there {φ : Val → Val} {v : Val} {w : List Val} (hw : AllP w) (hv : v.isP = true) (hn : v ∉ w) : putD (thereT φ w) (keyV v) (φ v).d = thereT φ (w ++ [v]) := by
  unfold putD
  have : ((thereT φ w).any fun kv => decide (kv.1 = keyV v)) = false := by
    rw [List.any_eq_false]
    intro kv hkv
    obtain ⟨x, hx, rfl⟩ := List.mem_map.mp hkv
    intro e
    exact hn (keyV_inj (hw x hx) hv (of_decide_eq_true e) ▸ hx)
  rw [this, if_neg (by simp)]
  unfold thereT
  rw [List.map_append]
  rfl
theorem yo_or {o : Wd} {p : Int} (h : (Val.ptr o p).yo = true) : o = .y ∨ o = .o := by cases o <;> first | exact .inl rfl | exact .inr rfl | cases h
theorem pr_law_matched {K : PySem.W.Frag} {C : Exs} {vs : List V} {H : Hp} {Q : VK} {E : XK} (hsp : spOf K (fs_law_matched C) vs H Q E) : t_law_matched K C E { nx := fun _ H' => Q .non H', rt := Q } (L2.start n_law_matched vs) H := by
  refine body_of (t := fun E => t_law_matched K C E) hsp fun ⟨one, φ, w, t, b, q⟩ rb A nx rt E hK hp hr _ hF hN => ?_
  subst hK
  try dsimp only at hp hr
  cases hr
  unfold t_law_matched
  show Ns A _ [some one.d, some (φ one).d, some (.obj t), some (.obj b), some (.obj q)] (boxM t b q φ w ++ [])
  obtain ⟨ap, hl, fp, fx, pt, nw⟩ := hp
  have fin : ∀ G rb, Rt A rt G (.bl true) (boxM t b q φ (meet1 Val.isP w one) ++ rb) := fun G rb => by
    refine hF.1 _ _ _ (boxM t b q φ (meet1 Val.isP w one)) ⟨rfl, rfl⟩ (fun p hp => ?_) ⟨rb, .cons .here (.cons .here (.cons .here .nil))⟩
    rcases List.mem_cons.mp hp with rfl | hp
    · rfl
    · rcases List.mem_cons.mp hp with rfl | hp
      · rfl
      · cases List.mem_singleton.mp hp; rfl
  walk_at "go"
  cases e : one.isP with
  | false =>
    have e2 := fx e
    refine split_nf ?_
    rw [show meet1 Val.isP w one = w by unfold meet1; rw [if_neg (by rw [e]; simp)]] at fin
    walk_at "go"
    exact cf_v (args := fun v : Val => [v.d, v.d]) one (by rw [show φ one = one from e2]) trivial (fin _ _)
  | true =>
    refine split_nt ?_
    walk_at "go"
    refine ⟨t, lookD (thereT φ w) (keyV one), rfl, ?_, ?_⟩
    · have := LookAt.ofT (M := boxM t b q φ w ++ []) (p := t) (k := keyV one) mem0 rfl rfl
      rw [keyV_d e] at this
      exact this
    rw [look_there e ap]
    by_cases hm : one ∈ w
    · rw [if_pos hm]
      rw [show meet1 Val.isP w one = w by unfold meet1; rw [if_neg (fun z => z.2 hm)]] at fin
      refine ⟨_, rfl, split_T rfl ?_⟩
      walk_at "go"
      refine ⟨t, (φ one).d, rfl, ?_, ?_⟩
      · have := LookAt.ofT (M := boxM t b q φ w ++ []) (p := t) (k := keyV one) (o := some (φ one).d) mem0 rfl (by rw [look_there e ap, if_pos hm])
        rw [keyV_d e] at this
        exact this
      walk_at "go"
      exact cf_v (args := fun v : Val => [v.d, v.d]) (φ one) rfl trivial (fin _ _)
    · rw [if_neg hm]
      refine ⟨_, rfl, split_F rfl ?_⟩
      rw [show meet1 Val.isP w one = w ++ [one] by unfold meet1; rw [if_pos ⟨e, hm⟩]] at fin
      obtain ⟨e3, e4⟩ := pt e
      have e5 := nw e hm
      have pp := put_there (φ := φ) ap e hm
      have pb := put_seenT fp e3 e5
      have lb := look_seenT fp e3
      have fin2 : ∀ G rb, Rt A rt G (.bl true) ([(t, .dt (thereT φ (w ++ [one]))), (b, .dt (seenT (w.map φ ++ [φ one]))), (q, .lst (w.map Val.d ++ [one.d]))] ++ rb) := fun G rb => by
        have := fin G rb
        rw [show boxM t b q φ (w ++ [one]) = [(t, .dt (thereT φ (w ++ [one]))), (b, .dt (seenT (w.map φ ++ [φ one]))), (q, .lst (w.map Val.d ++ [one.d]))] by simp [boxM]] at this
        exact this
      rw [if_neg e5] at lb
      have l1 : (w.map φ).length < 10000000 := by rw [List.length_map]; omega
      dsimp only [boxM]
      generalize w.map φ = wf at fp e5 pb lb fin2 l1 ⊢
      generalize φ one = two at e3 e4 e5 pp pb lb fin2 ⊢
      obtain ⟨o, p, rfl⟩ : ∃ o p, two = .ptr o p := by
        cases two with
        | ptr o p => exact ⟨o, p, rfl⟩
        | non => cases e3
        | num i => cases e3
      have ho := yo_or e4
      walk_at "go"
      refine cf_v (args := fun x => [x]) (D.int p) rfl rfl ?_
      walk_at "go"
      refine w_lst ?_
      walk_at "go"
      refine ⟨by simp, fun p2 => ?_⟩
      refine o_notInL (zs := [Str.ofString "young", Str.ofString "old"]) mem0 ?_
      rw [show (!decide (wordS o ∈ [Str.ofString "young", Str.ofString "old"])) = false by rcases ho with rfl | rfl <;> decide]
      walk_at "go"
      refine ⟨b, none, rfl, ?_, ?_⟩
      · have := LookAt.ofT (M := (p2, Box.lst [D.str (Str.ofString "young"), D.str (Str.ofString "old")]) :: ([(t, Box.dt (thereT φ w)), (b, .dt (seenT wf)), (q, .lst (w.map Val.d))] ++ [])) (p := b) (k := keyV (.ptr o p)) (b := .dt (seenT wf)) mem2 rfl lb
        exact this
      walk_at "go"
      refine ns_seq (ns_dput ?_)
      walk_at "go"
      refine ⟨t, _, rfl, .ofT (k := keyV one) (keyV_d e).symm (by unfold thereT; rw [List.length_map]; omega) (.there .here), ?_⟩
      rw [pp]
      refine ns_seq (ns_dput ?_)
      walk_at "go"
      refine ⟨b, _, rfl, .ofT (k := keyV (.ptr o p)) rfl (by unfold seenT; rw [List.length_map]; exact l1) (.there (.there .here)), ?_⟩
      rw [pb]
      walk_at "go"
      refine w_append ?_
      walk_at "go"
      refine ⟨q, _, rfl, mem3, ?_⟩
      walk_at "go"
      refine ⟨_, _, .there (.there (.there .here)), by rw [List.length_map]; omega, ?_⟩
      walk_at "go"
      exact fun σ H v S rv => fin2 _ [] σ H v (S.sub (List.sublist_cons_self _ _)) rv
theorem pr_law_right {K : PySem.W.Frag} {C : Exs} {vs : List V} {H : Hp} {Q : VK} {E : XK} (hsp : spOf K (fs_law_right C) vs H Q E) : t_law_right K C E { nx := fun _ H' => Q .non H', rt := Q } (L2.start n_law_right vs) H := by
  refine body_of (t := fun E => t_law_right K C E) hsp fun h rb A nx rt E hK hp hr _ hF hN => ?_
  subst hK
  try dsimp only at hp hr
  cases hr
  unfold t_law_right
  show Ns A _ [some h.d, none, none, none] []
  walk_at "go"
  refine ns_forT (ds := [things h.yo, things h.ol, row h.ro, pairs h.bk]) (fun i G M => ∃ x, G = [some h.d, x, none, none] ∧ M = []) ?_ ?_ ?_
  · walk_at "go"
    exact ⟨rfl, none, rfl, rfl⟩
  · rintro Hb ht i d _ _ hd ⟨x, rfl, rfl⟩
    obtain ⟨ds, rfl⟩ : ∃ ds, d = .tup ds := by
      match i, hd with
      | 0, hd => cases hd; exact ⟨_, rfl⟩
      | 1, hd => cases hd; exact ⟨_, rfl⟩
      | 2, hd => cases hd; exact ⟨_, rfl⟩
      | 3, hd => cases hd; exact ⟨_, rfl⟩
      | i + 4, hd => cases hd
    walk_at "go"
    exact ns_i ⟨_, rfl, rfl⟩
  rintro _ _ ⟨x, rfl, rfl⟩
  walk_at "go"
  refine ns_forL (ds := [things h.yo, things h.ol]) (fun p i G M => ∃ y z, G = [some h.d, x, y, z] ∧ M = [(p, .lst [things h.yo, things h.ol])]) ?_ ?_ ?_ ?_
  · refine w_lst ?_
    walk_at "go"
    exact ⟨by simp, fun p => ⟨p, rfl, none, none, rfl, rfl⟩⟩
  · rintro p i _ _ ⟨y, z, rfl, rfl⟩
    exact ⟨_, mem0, rfl⟩
  · rintro p i d _ _ hd ⟨y, z, rfl, rfl⟩
    obtain ⟨l, rfl⟩ : ∃ l, d = things l := by
      match i, hd with
      | 0, hd => cases hd; exact ⟨_, rfl⟩
      | 1, hd => cases hd; exact ⟨_, rfl⟩
      | i + 2, hd => cases hd
    refine ns_forT (ds := l.map Thing.d) (fun j G M => ∃ z, G = [some h.d, x, some (things l), z] ∧ M = [(p, .lst [things h.yo, things h.ol])]) ?_ ?_ ?_
    · exact w_var rfl ⟨rfl, z, rfl, rfl⟩
    · rintro Hb ht j d _ _ hd ⟨z, rfl, rfl⟩
      obtain ⟨t, ht, rfl⟩ := map_get hd
      walk_at "go"
      refine cf_v (args := fun x => [x]) (D.int t.age) rfl rfl ?_
      walk_at "go"
      exact ns_i ⟨_, rfl, rfl⟩
    · rintro _ _ ⟨z, rfl, rfl⟩
      exact ns_i ⟨_, _, rfl, rfl⟩
  rintro p _ _ ⟨y, z, rfl, rfl⟩
  walk_at "go"
  exact fin0 hF ⟨rfl, rfl⟩

section
variable {A : Am} {C : Exs} {W : L2.St → XK} {G : Gm} {M rest : Bxs} {R : D → Bxs → Prop} {ds : List D}
theorem cf_mat (one : Val) (φ : Val → Val) (w : List Val) (t b q : Addr) (ha : [one.d, (φ one).d, .obj t, .obj b, .obj q] = ds) (hp : MatOk φ w one) (hs : Sel M (boxM t b q φ w) rest) (k : R (.bl true) (boxM t b q φ (meet1 Val.isP w one) ++ rest)) : Cf A (fs_law_matched C) W ds G M R :=
  ⟨⟨one, φ, w, t, b, q⟩, rest, [], rest, ha, hp, fun p hp => (by
    rcases List.mem_cons.mp hp with rfl | hp
    · rfl
    · rcases List.mem_cons.mp hp with rfl | hp
      · rfl
      · cases List.mem_singleton.mp hp; rfl), hs, .nil, .nil, fun d M' ⟨h1, h2⟩ => by subst h1 h2; exact k, fun _ h => h.elim⟩
/-- an item of a row, in a tuple or in a list -/
theorem x_rowAt {vs : List Val} {oa : Option Addr} {i : Int} {v : Val} (ho : ∀ a, oa = some a → ∃ b, (a, b) ∈ M ∧ Box.rb b = .l (vs.map Val.d)) (h0 : 0 ≤ i) (hv : vs[i.toNat]? = some v) (k : R v.d M) : Op2 A (rIx A.K) (rowAt vs oa) (.int i) G M R := by
  cases oa with
  | none => exact x_map h0 hv k
  | some a =>
    obtain ⟨b, hm, hb⟩ := ho a rfl
    exact x_lmap hm hb h0 hv k
theorem n_rowAt {vs : List Val} {oa : Option Addr} (ho : ∀ a, oa = some a → ∃ b, (a, b) ∈ M ∧ Box.rb b = .l (vs.map Val.d)) (k : R (.int (vs.length : Int)) M) : Cl A (rLenS A.K) [rowAt vs oa] G M R := by
  cases oa with
  | none => exact n_map k
  | some a =>
    obtain ⟨b, hm, hb⟩ := ho a rfl
    exact n_lmap hm hb k
end
theorem okP_yo {ny no : Nat} {v : Val} (h : okP ny no v) : v.yo = true := by rcases h with ⟨p, _, rfl⟩ | ⟨p, _, rfl⟩ <;> rfl
theorem mat_ok {f : Val → List Val} {Q : Val → Prop} {φ : Val → Val} {h2 : Hep} {w : List Val} {one : Val} (em : Emb f Q φ h2) (hw : ∀ v ∈ w, Q v) (hl : w.length ≤ 1000000) (ho : one.isP = true → Q one) : MatOk φ w one where
  ap := fun v hv => em.isP v (hw v hv)
  len := hl
  fp := fun x hx => by
    obtain ⟨u, hu, rfl⟩ := List.mem_map.mp hx
    exact okP_isP (em.ok u (hw u hu))
  fix := em.fix one
  ptr := fun e => ⟨okP_isP (em.ok one (ho e)), okP_yo (em.ok one (ho e))⟩
  new := fun e hn hx => by
    obtain ⟨u, hu, eu⟩ := List.mem_map.mp hx
    exact hn (em.inj u one (hw u hu) (ho e) eu ▸ hu)
theorem meet_all {Q : Val → Prop} {w vs : List Val} (hw : ∀ u ∈ w, Q u) (hv : ∀ v ∈ vs, v.isP = true → Q v) : ∀ u ∈ meet Val.isP w vs, Q u := fun u hu => by
  rcases mem_meet.mp hu with z | ⟨z1, z2⟩
  · exact hw u z
  · exact hv u z1 z2
/-- a row is gone through side by side -/
theorem walk_row {A : Am} {C : Exs} {f : Val → List Val} {Q : Val → Prop} {φ : Val → Val} {h2 : Hep} {x0 x1 x5 x6 x9 : Option D} {t b q : Addr} {w vs : List Val} {oa : Option Addr} {rb : Bxs} {NX : L2.St → Hp → Prop} {rt : VK} {bk ct : L2.St → Hp → Prop} (em : Emb f Q φ h2) (hw : ∀ v ∈ w, Q v) (hv : ∀ v ∈ vs, v.isP = true → Q v) (hl : w.length + vs.length ≤ 1000000)
    (ho : ∀ a, oa = some a → ∃ b, (a, b) ∈ rb ∧ Box.rb b = .l (vs.map Val.d))
    (hk : ∀ x9, Ns A NX [x0, x1, some (.obj t), some (.obj b), some (.obj q), x5, x6, some (rowAt vs oa), some (row (vs.map φ)), x9] (boxM t b q φ (meet Val.isP w vs) ++ rb)) :
    Ns A (tFor (iRng1 (tCons (tCB (rLenS A.K) (tCons (tVar 7) tNil)) tNil)) (gName 9)
      (tIfS (tNot (tB (tCall (spOf A.K (fs_law_matched C)) [] E0 (tCons (tOp (rIx A.K) (tVar 7) (tVar 9)) (tCons (tOp (rIx A.K) (tVar 8) (tVar 9)) (tCons (tVar 2) (tCons (tVar 3) (tCons (tVar 4) tNil)))))))) (tRet (tC (.bl false))) tNext) ⟨NX, rt, bk, ct⟩)
      [x0, x1, some (.obj t), some (.obj b), some (.obj q), x5, x6, some (rowAt vs oa), some (row (vs.map φ)), x9] (boxM t b q φ w ++ rb) := by
  have mb : ∀ {w2 : List Val} a, oa = some a → ∃ b', (a, b') ∈ boxM t b q φ w2 ++ rb ∧ Box.rb b' = .l (vs.map Val.d) := fun a e => by
    obtain ⟨b', h1, h2⟩ := ho a e
    exact ⟨b', List.mem_append_right _ h1, h2⟩
  refine ns_forR1 (n := (vs.length : Int)) (fun i G M => ∃ x9, G = [x0, x1, some (.obj t), some (.obj b), some (.obj q), x5, x6, some (rowAt vs oa), some (row (vs.map φ)), x9] ∧ M = boxM t b q φ (meet Val.isP w (vs.take i)) ++ rb) ?_ ?_ ?_
  · walk_at "go"
    refine n_rowAt mb ?_
    walk_at "go"
    exact ⟨rfl, ⟨by omega, by omega⟩, x9, rfl, by simp [meet]⟩
  · rintro i _ _ hi ⟨y, rfl, rfl⟩
    obtain ⟨v, hv2⟩ := get_of_lt hi
    have al : (meet Val.isP w (vs.take i)).length ≤ 1000000 := by
      have h1 := meet_len (p := Val.isP) (w := w) (vs := vs.take i)
      have h2 : (vs.take i).length ≤ vs.length := by simp; omega
      omega
    have aq := meet_all (Q := Q) hw (vs := vs.take i) fun v hv3 => hv v (List.mem_of_mem_take hv3)
    walk_at "go"
    refine x_rowAt mb (by omega) hv2 ?_
    walk_at "go"
    refine x_map (xs := vs.map φ) (x := φ v) (by omega) (by rw [show (i : Int).toNat = i by omega, List.getElem?_map, hv2]; rfl) ?_
    walk_at "go"
    refine cf_mat v φ _ t b q rfl (mat_ok em aq al (hv v (List.mem_of_getElem? hv2))) (.cons .here (.cons .here (.cons .here .nil))) ?_
    walk_at "go"
    exact ns_i ⟨_, rfl, by rw [meet_take hv2]; rfl⟩
  · rintro _ _ ⟨y, rfl, rfl⟩
    rw [show (vs.length : Int).toNat = vs.length by omega, List.take_length]
    exact hk _
theorem okP_get {h : Hep} {v : Val} (hv : okP h.yo.length h.ol.length v) : ∃ (o : Wd) (p : Nat) (t : Thing), v = .ptr o (p : Int) ∧ (o = .y ∨ o = .o) ∧ (h.half o)[p]? = some t ∧ h.leads o (p : Int) = true ∧ h.fsOf v = t.fs := by
  rcases hv with ⟨p, hp, rfl⟩ | ⟨p, hp, rfl⟩
  · have ht := List.getElem?_eq_getElem hp
    exact ⟨.y, p, _, rfl, .inl rfl, ht, inR_of (by omega) (by show (p : Int) < (h.yo.length : Int); omega), fsOf_at (o := .y) ht⟩
  · have ht := List.getElem?_eq_getElem hp
    exact ⟨.o, p, _, rfl, .inr rfl, ht, inR_of (by omega) (by show (p : Int) < (h.ol.length : Int); omega), fsOf_at (o := .o) ht⟩
def cntW (o : Wd) (l : List Val) : Nat := (l.filter (Val.isW o)).length
theorem ns_perm {A : Am} {G : Gm} {M M' : Bxs} {nx : L2.St → Hp → Prop} (h : Ns A nx G M') (p : M'.Perm M) : Ns A nx G M := fun σ H S => h σ H (S.perm p)
/-- old places up to n -/
def oldTo (n : Nat) : List Val := (List.range n).map fun p : Nat => Val.ptr .o (p : Int)
/-! both halves gone through: where things go -/
abbrev kh (h : Hep) (w : List Val) (o : Wd) : List Int := chosen (h.half o).length (met? o w)
section
variable {h : Hep} {w : List Val}
theorem majPs_nodup : ((majPs h w).map (·.1)).Nodup := by
  unfold majPs
  rw [List.map_append, numb_keys, numb_keys]
  have nd : ∀ (o : Wd) (n : Nat) (c : Nat → Bool), ((chosen n c).map (Val.ptr o)).Nodup := fun o n c => List.pairwise_map.mpr (List.Pairwise.imp (fun {a b} hab e => by injection e with _ e; omega) (asc_chosen (n := n) (c := c)))
  refine List.nodup_append.mpr ⟨nd _ _ _, nd _ _ _, fun a ha b hb e => ?_⟩
  obtain ⟨k, _, rfl⟩ := List.mem_map.mp ha
  obtain ⟨k2, _, rfl⟩ := List.mem_map.mp hb
  cases e
theorem maj_mem {o : Wd} (ho : o = .y ∨ o = .o) : ∀ q ∈ numb o 0 (kh h w o), q ∈ majPs h w := fun q hq => by
  rcases ho with rfl | rfl
  · exact List.mem_append_left _ hq
  · exact List.mem_append_right _ hq
theorem maj_at {o : Wd} (ho : o = .y ∨ o = .o) {j : Nat} {k : Int} (hk : (kh h w o)[j]? = some k) : mvV (majPs h w) (.ptr o k) = .ptr o (j : Int) := by
  have := numb_mem (o := o) (i := 0) hk
  rw [Nat.zero_add] at this
  unfold mvV
  rw [lookV_some majPs_nodup (maj_mem ho _ this)]
  rfl
theorem maj_half {o : Wd} (ho : o = .y ∨ o = .o) : (majorH h w).half o = kept (majPs h w) (h.half o) (kh h w o) := by rcases ho with rfl | rfl <;> rfl
theorem kh_th {o : Wd} {k : Int} (hk : k ∈ kh h w o) : ∃ p : Nat, k = (p : Int) ∧ (h.half o)[p]? = some (thingAt (h.half o) k) ∧ Val.ptr o k ∈ w := by
  have h1 := thingAt_get (chosen_in k hk)
  obtain ⟨p, hp, hm, rfl⟩ := mem_chosen.mp hk
  exact ⟨p, rfl, by rwa [show (p : Int).toNat = p by omega] at h1, of_decide_eq_true hm⟩
theorem maj_goes (g : Gd h) (d : Far h w) {v : Val} (hv : v ∈ w) : ∃ (o : Wd) (p j : Nat) (t : Thing), v = .ptr o (p : Int) ∧ (o = .y ∨ o = .o) ∧ (h.half o)[p]? = some t ∧ mvV (majPs h w) v = .ptr o (j : Int) ∧ ((majorH h w).half o)[j]? = some (tmv (majPs h w) t) ∧ (kh h w o)[j]? = some (p : Int) := by
  obtain ⟨o, p, t, rfl, ho, ht, _, _⟩ := okP_get ((far_ok g d).1 v hv)
  have hk : (p : Int) ∈ kh h w o := mem_chosen.mpr ⟨p, (List.getElem?_eq_some_iff.mp ht).1, decide_eq_true hv, rfl⟩
  obtain ⟨j, hj⟩ := List.getElem?_of_mem hk
  refine ⟨o, p, j, t, rfl, ho, ht, maj_at ho hj, ?_, hj⟩
  rw [maj_half ho]
  unfold kept
  rw [List.getElem?_map, hj]
  show some (tmv _ (thingAt (h.half o) (p : Int))) = _
  unfold thingAt
  rw [show (p : Int).toNat = p by omega, List.getD_eq_getElem?_getD, ht]
  rfl
theorem far_cl (g : Gd h) (d : Far h w) {v : Val} (hv : v ∈ w) : ∀ u ∈ h.fsOf v, u.isP = true → u ∈ w := fun u hu hp => d.closed hv hu hp
theorem far_root (d : Far h w) {v : Val} (hv : v ∈ h.ro) (hp : v.isP = true) : v ∈ w := d.start (mem_meet.mpr (.inr ⟨hv, hp⟩))
theorem major_emb (g : Gd h) (d : Far h w) : Emb h.fsOf (fun v => v ∈ w) (mvV (majPs h w)) (majorH h w) where
  fix := fun v hv => by unfold mvV; rw [lookV_not majPs_p hv]; rfl
  isP := fun v hv => okP_isP ((far_ok g d).1 v hv)
  ok := fun v hv => by
    obtain ⟨o, p, j, t, _, ho, _, e, ht, _⟩ := maj_goes g d hv
    rw [e]
    exact okP_half ho ht
  inj := fun u v hu hv e => by
    obtain ⟨o, p, j, t, rfl, ho, _, e1, _, h1⟩ := maj_goes g d hu
    obtain ⟨o', p', j', t', rfl, ho', _, e2, _, h2⟩ := maj_goes g d hv
    rw [e1, e2] at e
    injection e with e3 e4
    subst e3
    have : j = j' := by omega
    subst this
    rw [h1] at h2
    injection h2 with h2
    rw [h2]
  step := fun v hv => by
    obtain ⟨o, p, j, t, rfl, ho, h1, e1, ht, _⟩ := maj_goes g d hv
    rw [e1, fsOf_at ht, fsOf_at h1]
    rfl
  cl := fun v hv => far_cl g d hv
theorem major_snd (g : Gd h) (d : Far h w) : Snd (majorH h w) := by
  have em := major_emb g d
  have row : ∀ vs : List Val, (∀ u ∈ vs, u.isP = true → u ∈ w) → ∀ v ∈ vs.map (mvV (majPs h w)), (majorH h w).okV v = true ∧ v.yo = true := fun vs hk v hv => by
    obtain ⟨u, hu, rfl⟩ := List.mem_map.mp hv
    refine okV_pic fun hp => em.ok u (hk u hu ?_)
    cases e : u.isP with
    | true => rfl
    | false => rw [em.fix u e, e] at hp; cases hp
  have half : ∀ o : Wd, (o = .y ∨ o = .o) → ∀ t ∈ (majorH h w).half o, ∀ v ∈ t.fs, (majorH h w).okV v = true ∧ v.yo = true := fun o ho t ht => by
    rw [maj_half ho] at ht
    obtain ⟨k, hk, rfl⟩ := List.mem_map.mp ht
    obtain ⟨p, rfl, h1, hm⟩ := kh_th hk
    refine row _ fun u hu hp => far_cl g d hm u ?_ hp
    rw [fsOf_at h1]
    exact hu
  exact ⟨row _ fun u hu hp => far_root d hu hp, half .y (.inl rfl), half .o (.inr rfl), rfl⟩
end
theorem maj_len {h : Hep} {w : List Val} {o : Wd} (ho : o = .y ∨ o = .o) : ((majorH h w).half o).length ≤ (h.half o).length := by
  rw [maj_half ho, kept_len]
  exact chosen_len
theorem maj_fs {h : Hep} {w : List Val} {o : Wd} (ho : o = .y ∨ o = .o) {m : Nat} (hf : ∀ t ∈ h.half o, t.fs.length ≤ m) : ∀ t ∈ (majorH h w).half o, t.fs.length ≤ m := by
  rw [maj_half ho]
  exact kept_fs chosen_in hf
/-! the plain list of things, kept by each deed -/
section
variable {n : Nat} {h : Hep} {roots : List Val} {ths : List (List Val)} {φ : Val → Val} {Q : Val → Prop}
theorem Sim.gd (S : Sim n h roots ths φ Q) (hn : n ≤ 2000) : Gd h := by
  have := S.lh
  exact ⟨S.s, ⟨by omega, by omega, by rw [S.ro, List.length_map]; exact S.lr, fun t ht => by have := S.fy t ht; omega, fun t ht => by have := S.fo t ht; omega⟩⟩
theorem Sim.up {m : Nat} (S : Sim n h roots ths φ Q) (hm : n ≤ m) : Sim m h roots ths φ Q := { S with lh := by have := S.lh; omega, lt := by have := S.lt; omega }
/-- what stands at a root, and its picture -/
theorem Sim.at_ (S : Sim n h roots ths φ Q) {k : Nat} {v : Val} (hv : roots[k]? = some v) : h.ro[k]? = some (φ v) := by rw [S.ro, List.getElem?_map, hv]; rfl
theorem Sim.isP (S : Sim n h roots ths φ Q) {v : Val} (hv : v.isP = true → Q v) : (φ v).isP = v.isP := S.em.isP_iff hv
theorem Sim.okV (S : Sim n h roots ths φ Q) {v : Val} (hv : v.isP = true → Q v) : h.okV (φ v) = true ∧ (φ v).yo = true := okV_pic fun hp => S.em.ok v (hv (by rw [S.isP hv] at hp; exact hp))
theorem tfs_at {i : Nat} : tfs ths (.ptr .t (i : Int)) = ths.getD i [] := by
  show ths.getD (i : Int).toNat [] = _
  rw [show (i : Int).toNat = i by omega]
/-- a thing that is meant: its row, and where it lies -/
theorem Sim.thing (S : Sim n h roots ths φ Q) {v : Val} (hv : Q v) : ∃ (i : Nat) (r : List Val) (o : Wd) (p : Nat) (t : Thing), v = .ptr .t (i : Int) ∧ ths[i]? = some r ∧ φ v = .ptr o (p : Int) ∧ (o = .y ∨ o = .o) ∧ (h.half o)[p]? = some t ∧ h.leads o (p : Int) = true ∧ t.fs = r.map φ ∧ (∀ u ∈ r, u.isP = true → Q u) ∧ r.length ≤ 150 := by
  obtain ⟨i, hi, rfl⟩ := S.qt v hv
  have hr := List.getElem?_eq_getElem hi
  obtain ⟨o, p, t, e, ho, ht, hl, hf⟩ := okP_get (S.em.ok _ hv)
  have st := S.em.step _ hv
  have et : tfs ths (.ptr .t (i : Int)) = ths[i] := by rw [tfs_at, List.getD_eq_getElem?_getD, hr]; rfl
  rw [et, hf] at st
  exact ⟨i, _, o, p, t, rfl, hr, e, ho, ht, hl, st, fun u hu hp => S.em.cl _ hv u (by rw [et]; exact hu) hp, S.ft _ (List.mem_of_getElem? hr)⟩
theorem set_map {α β : Type} {f : α → β} {l : List α} {i : Nat} {a : α} : (l.set i a).map f = (l.map f).set i (f a) := List.map_set
theorem mem_set {α : Type} {l : List α} {i : Nat} {a b : α} (h : b ∈ l.set i a) : b ∈ l ∨ b = a := List.mem_or_eq_of_mem_set h
/-- a root is set -/
theorem Sim.hold (S : Sim n h roots ths φ Q) {u : Val} {k : Nat} (hu : u.isP = true → Q u) : Sim n { h with ro := h.ro.set k (φ u) } (roots.set k u) ths φ Q where
  s := ⟨fun v hv => by
    rcases mem_set hv with z | rfl
    · exact S.s.ro v z
    · exact S.okV hu, S.s.yo, S.s.ol, S.s.bk⟩
  em := ⟨S.em.fix, S.em.isP, S.em.ok, S.em.inj, S.em.step, S.em.cl⟩
  ro := by show h.ro.set k (φ u) = _; rw [S.ro, set_map]
  qr := fun v hv hp => by
    rcases mem_set hv with z | rfl
    · exact S.qr v z hp
    · exact hu hp
  qt := S.qt
  lh := S.lh
  lt := S.lt
  lr := by rw [List.length_set]; exact S.lr
  fy := S.fy
  fo := S.fo
  ft := S.ft
end
/-- one more place -/
def more (φ : Val → Val) (n : Nat) (x : Val) : Val → Val := fun v => if v = .ptr .t (n : Int) then x else φ v
section
variable {n : Nat} {h : Hep} {roots : List Val} {ths : List (List Val)} {φ : Val → Val} {Q : Val → Prop}
theorem Sim.fresh (S : Sim n h roots ths φ Q) : ¬ Q (.ptr .t (ths.length : Int)) := fun z => by
  obtain ⟨i, hi, e⟩ := S.qt _ z
  injection e with _ e
  omega
theorem more_old {x : Val} {m : Nat} {v : Val} (hv : v ≠ .ptr .t (m : Int)) : more φ m x v = φ v := if_neg hv
theorem more_new {x : Val} {m : Nat} : more φ m x (.ptr .t (m : Int)) = x := if_pos rfl
theorem fsOf_more {us : List Val} {v : Val} (hv : okP h.yo.length h.ol.length v) : (h.more us).fsOf v = h.fsOf v := by
  rcases hv with ⟨p, hp, rfl⟩ | ⟨p, hp, rfl⟩
  · show fsAt (h.yo ++ [_]) _ = fsAt h.yo _
    unfold fsAt
    rw [List.getElem?_append_left (by omega)]
  · rfl
theorem okP_more {us : List Val} {v : Val} (hv : okP h.yo.length h.ol.length v) : okP (h.more us).yo.length (h.more us).ol.length v := by
  rcases hv with ⟨p, hp, rfl⟩ | ⟨p, hp, rfl⟩
  · exact .inl ⟨p, by show p < (h.yo ++ [_]).length; simp; omega, rfl⟩
  · exact .inr ⟨p, hp, rfl⟩
theorem okV_more {us : List Val} {v : Val} (hv : h.okV v = true ∧ v.yo = true) : (h.more us).okV v = true ∧ v.yo = true := okV_pic fun hp => okP_more (okP_of hv.1 hv.2 hp)
theorem fsOf_new {us : List Val} : (h.more us).fsOf (.ptr .y (h.yo.length : Int)) = us := by
  show fsAt (h.yo ++ [_]) _ = us
  unfold fsAt
  rw [show (h.yo.length : Int).toNat = h.yo.length by omega, List.getElem?_append_right (by omega)]
  simp
/-- a thing is made -/
theorem Sim.made (S : Sim n h roots ths φ Q) {us : List Val} (hu : ∀ u ∈ us, u.isP = true → Q u) (hl : us.length ≤ 150) :
    Sim (n + 1) (h.more (us.map φ)) roots (ths ++ [us]) (more φ ths.length (.ptr .y (h.yo.length : Int))) (fun v => Q v ∨ v = .ptr .t (ths.length : Int)) := by
  have old : ∀ v, (v.isP = true → Q v) → more φ ths.length (.ptr .y (h.yo.length : Int)) v = φ v := fun v hv => more_old fun e => by
    subst e
    exact S.fresh (hv rfl)
  have rowEq : ∀ vs : List Val, (∀ u ∈ vs, u.isP = true → Q u) → vs.map (more φ ths.length (.ptr .y (h.yo.length : Int))) = vs.map φ := fun vs hv => List.map_congr_left fun u hm => old u (hv u hm)
  have tOld : ∀ v, Q v → tfs (ths ++ [us]) v = tfs ths v := fun v hv => by
    obtain ⟨i, hi, rfl⟩ := S.qt v hv
    rw [tfs_at, tfs_at, List.getD_eq_getElem?_getD, List.getD_eq_getElem?_getD, List.getElem?_append_left hi]
  have tNew : tfs (ths ++ [us]) (.ptr .t (ths.length : Int)) = us := by
    rw [tfs_at, List.getD_eq_getElem?_getD, List.getElem?_append_right (by omega)]
    simp
  exact {
    s := ⟨fun v hv => okV_more (S.s.ro v hv), fun t ht v hv => by
        rcases List.mem_append.mp ht with z | z
        · exact okV_more (S.s.yo t z v hv)
        · cases List.mem_singleton.mp z
          obtain ⟨u, hm, rfl⟩ := List.mem_map.mp hv
          exact okV_more (S.okV (hu u hm)), fun t ht v hv => okV_more (S.s.ol t ht v hv), S.s.bk⟩
    em := {
      fix := fun v hv => by rw [old v fun z => by rw [hv] at z; cases z]; exact S.em.fix v hv
      isP := fun v hv => hv.elim (S.em.isP v) fun e => by rw [e]; rfl
      ok := fun v hv => by
        rcases hv with hv | rfl
        · rw [old v fun _ => hv]
          exact okP_more (S.em.ok v hv)
        · rw [more_new]
          exact .inl ⟨h.yo.length, by show _ < (h.yo ++ [_]).length; simp, rfl⟩
      inj := fun u v hq hv e => by
        have ne : ∀ x, Q x → φ x ≠ .ptr .y (h.yo.length : Int) := fun x hx z => by
          rcases S.em.ok x hx with ⟨p, hp, e2⟩ | ⟨p, hp, e2⟩ <;> rw [z] at e2 <;> injection e2 with e3 e4
          · omega
          · cases e3
        rcases hq with hq | rfl <;> rcases hv with hv | rfl
        · rw [old u fun _ => hq, old v fun _ => hv] at e
          exact S.em.inj u v hq hv e
        · rw [old u fun _ => hq, more_new] at e
          exact absurd e (ne u hq)
        · rw [old v fun _ => hv, more_new] at e
          exact absurd e.symm (ne v hv)
        · rfl
      step := fun v hv => by
        rcases hv with hv | rfl
        · rw [old v fun _ => hv, fsOf_more (S.em.ok v hv), S.em.step v hv, tOld v hv]
          exact (rowEq _ fun u hm hp => S.em.cl v hv u hm hp).symm
        · rw [more_new, fsOf_new, tNew]
          exact (rowEq us hu).symm
      cl := fun v hv u hm hp => by
        rcases hv with hv | rfl
        · rw [tOld v hv] at hm
          exact .inl (S.em.cl v hv u hm hp)
        · rw [tNew] at hm
          exact .inl (hu u hm hp) }
    ro := by
      show h.ro = _
      rw [rowEq roots S.qr]
      exact S.ro
    qr := fun v hv hp => .inl (S.qr v hv hp)
    qt := fun v hv => by
      rcases hv with hv | rfl
      · obtain ⟨i, hi, e⟩ := S.qt v hv
        exact ⟨i, by rw [List.length_append]; omega, e⟩
      · exact ⟨ths.length, by simp, rfl⟩
    lh := by
      have := S.lh
      show (h.yo ++ [_]).length + h.ol.length ≤ n + 1
      simp
      omega
    lt := by have := S.lt; simp; omega
    lr := S.lr
    fy := fun t ht => by
      rcases List.mem_append.mp ht with z | z
      · exact S.fy t z
      · cases List.mem_singleton.mp z
        simpa using hl
    fo := S.fo
    ft := fun r hr => by
      rcases List.mem_append.mp hr with z | z
      · exact S.ft r z
      · cases List.mem_singleton.mp z
        exact hl }
theorem fsOf_put {o : Wd} {p f : Nat} {t : Thing} {x v : Val} (ho : o = .y ∨ o = .o) (ht : (h.half o)[p]? = some t) (hv : okP h.yo.length h.ol.length v) : (h.put o (p : Int) (f : Int) t x).fsOf v = if v = .ptr o (p : Int) then t.fs.set f x else h.fsOf v := by
  have hp := (List.getElem?_eq_some_iff.mp ht).1
  have fs : ∀ (l : List Thing) (q : Nat), l[p]? = some t → fsAt (l.set p ⟨t.age, t.fs.set f x⟩) (q : Int) = if q = p then t.fs.set f x else fsAt l (q : Int) := fun l q hl => by
    have hlp := (List.getElem?_eq_some_iff.mp hl).1
    unfold fsAt
    rw [show (q : Int).toNat = q by omega]
    by_cases e : q = p
    · subst e
      rw [List.getElem?_set_self hlp, if_pos rfl]
    · rw [List.getElem?_set_ne (fun z => e z.symm), if_neg e]
  rcases hv with ⟨q, hq, rfl⟩ | ⟨q, hq, rfl⟩ <;> rcases ho with rfl | rfl
  · show fsAt (h.yo.set (p : Int).toNat ⟨t.age, t.fs.set (f : Int).toNat x⟩) (q : Int) = _
    rw [show (p : Int).toNat = p by omega, show (f : Int).toNat = f by omega, fs h.yo q ht]
    by_cases e : q = p
    · subst e; simp
    · rw [if_neg e, if_neg (fun z => e (by injection z with _ z; omega))]
      rfl
  · rw [if_neg (fun z => nomatch z)]
    rfl
  · rw [if_neg (fun z => nomatch z)]
    rfl
  · show fsAt (h.ol.set (p : Int).toNat ⟨t.age, t.fs.set (f : Int).toNat x⟩) (q : Int) = _
    rw [show (p : Int).toNat = p by omega, show (f : Int).toNat = f by omega, fs h.ol q ht]
    by_cases e : q = p
    · subst e; simp
    · rw [if_neg e, if_neg (fun z => e (by injection z with _ z; omega))]
      rfl
theorem put_len {o : Wd} {p f : Int} {t : Thing} {x : Val} : (h.put o p f t x).yo.length = h.yo.length ∧ (h.put o p f t x).ol.length = h.ol.length ∧ (h.put o p f t x).ro = h.ro := by
  cases o <;> exact ⟨by simp [Hep.put], by simp [Hep.put], rfl⟩
theorem put_sub {o o2 : Wd} {p f : Nat} {t : Thing} {x : Val} (ho : o = .y ∨ o = .o) (ho2 : o2 = .y ∨ o2 = .o) : ∀ t2 ∈ (h.put o (p : Int) (f : Int) t x).half o2, t2 ∈ h.half o2 ∨ (t2 = ⟨t.age, t.fs.set f x⟩ ∧ o2 = o) := fun t2 ht2 => by
  rcases ho with rfl | rfl <;> rcases ho2 with rfl | rfl
  · have ht2 : t2 ∈ h.yo.set (p : Int).toNat ⟨t.age, t.fs.set (f : Int).toNat x⟩ := ht2
    rcases mem_set ht2 with z | z
    · exact .inl z
    · exact .inr ⟨by rw [z, show (f : Int).toNat = f by omega], rfl⟩
  · exact .inl ht2
  · exact .inl ht2
  · have ht2 : t2 ∈ h.ol.set (p : Int).toNat ⟨t.age, t.fs.set (f : Int).toNat x⟩ := ht2
    rcases mem_set ht2 with z | z
    · exact .inl z
    · exact .inr ⟨by rw [z, show (f : Int).toNat = f by omega], rfl⟩
/-- a field is put -/
theorem Sim.put (S : Sim n h roots ths φ Q) {u : Val} {i f p : Nat} {r : List Val} {o : Wd} {t : Thing} (hv : Q (.ptr .t (i : Int))) (hr : ths[i]? = some r) (e : φ (.ptr .t (i : Int)) = .ptr o (p : Int)) (ho : o = .y ∨ o = .o) (ht : (h.half o)[p]? = some t) (hf : t.fs = r.map φ) (hu : u.isP = true → Q u) :
    Sim n (h.put o (p : Int) (f : Int) t (φ u)) roots (ths.set i (r.set f u)) φ Q := by
  obtain ⟨l1, l2, l3⟩ := put_len (h := h) (o := o) (p := (p : Int)) (f := (f : Int)) (t := t) (x := φ u)
  have hi := (List.getElem?_eq_some_iff.mp hr).1
  have okp : ∀ v, okP h.yo.length h.ol.length v → okP (h.put o (p : Int) (f : Int) t (φ u)).yo.length (h.put o (p : Int) (f : Int) t (φ u)).ol.length v := fun v hv => by rw [l1, l2]; exact hv
  have okv : ∀ v, h.okV v = true ∧ v.yo = true → (h.put o (p : Int) (f : Int) t (φ u)).okV v = true ∧ v.yo = true := fun v hv => okV_pic fun hp => okp v (okP_of hv.1 hv.2 hp)
  have tOld : ∀ v, Q v → v ≠ .ptr .t (i : Int) → tfs (ths.set i (r.set f u)) v = tfs ths v := fun v hv ne => by
    obtain ⟨j, hj, rfl⟩ := S.qt v hv
    rw [tfs_at, tfs_at, List.getD_eq_getElem?_getD, List.getD_eq_getElem?_getD, List.getElem?_set_ne (fun z => ne (by rw [z]))]
  have tNew : tfs (ths.set i (r.set f u)) (.ptr .t (i : Int)) = r.set f u := by
    rw [tfs_at, List.getD_eq_getElem?_getD, List.getElem?_set_self hi]
    rfl
  have tR : tfs ths (.ptr .t (i : Int)) = r := by rw [tfs_at, List.getD_eq_getElem?_getD, hr]; rfl
  have half : ∀ o2, (o2 = .y ∨ o2 = .o) → ∀ t2 ∈ (h.put o (p : Int) (f : Int) t (φ u)).half o2, (∀ v ∈ t2.fs, (h.put o (p : Int) (f : Int) t (φ u)).okV v = true ∧ v.yo = true) ∧ t2.fs.length ≤ 150 := fun o2 ho2 t2 ht2 => by
    have so : ∀ o3, (o3 = .y ∨ o3 = .o) → ∀ t3 ∈ h.half o3, (∀ v ∈ t3.fs, h.okV v = true ∧ v.yo = true) ∧ t3.fs.length ≤ 150 := fun o3 ho3 t3 ht3 => by
      rcases ho3 with rfl | rfl
      · exact ⟨S.s.yo t3 ht3, S.fy t3 ht3⟩
      · exact ⟨S.s.ol t3 ht3, S.fo t3 ht3⟩
    rcases put_sub ho ho2 t2 ht2 with z | ⟨rfl, rfl⟩
    · exact ⟨fun v hv => okv v ((so o2 ho2 t2 z).1 v hv), (so o2 ho2 t2 z).2⟩
    · have s1 := so o2 ho2 t (List.mem_of_getElem? ht)
      refine ⟨fun v hv => ?_, by show (t.fs.set f (φ u)).length ≤ _; rw [List.length_set]; exact s1.2⟩
      rcases mem_set hv with z | rfl
      · exact okv v (s1.1 v z)
      · exact okv _ (S.okV hu)
  exact {
    s := ⟨fun v hv => okv v (S.s.ro v (by rw [← l3]; exact hv)), fun t2 ht2 => (half .y (.inl rfl) t2 ht2).1, fun t2 ht2 => (half .o (.inr rfl) t2 ht2).1, by
      rcases ho with rfl | rfl
      · exact S.s.bk
      · rfl⟩
    em := {
      fix := S.em.fix
      isP := S.em.isP
      ok := fun v hv => okp _ (S.em.ok v hv)
      inj := S.em.inj
      step := fun v hq => by
        rw [fsOf_put ho ht (S.em.ok v hq)]
        by_cases ev : v = .ptr .t (i : Int)
        · subst ev
          rw [e, if_pos rfl, tNew, hf, set_map]
        · rw [if_neg (fun z => ev (S.em.inj v _ hq hv (z.trans e.symm))), tOld v hq ev, S.em.step v hq]
      cl := fun v hq w hw hp => by
        by_cases ev : v = .ptr .t (i : Int)
        · subst ev
          rw [tNew] at hw
          rcases mem_set hw with z | rfl
          · exact S.em.cl _ hv w (by rw [tR]; exact z) hp
          · exact hu hp
        · rw [tOld v hq ev] at hw
          exact S.em.cl v hq w hw hp }
    ro := by rw [l3]; exact S.ro
    qr := S.qr
    qt := fun v hq => by
      obtain ⟨j, hj, e⟩ := S.qt v hq
      exact ⟨j, by rw [List.length_set]; exact hj, e⟩
    lh := by rw [l1, l2]; exact S.lh
    lt := by rw [List.length_set]; exact S.lt
    lr := S.lr
    fy := fun t2 ht2 => (half .y (.inl rfl) t2 ht2).2
    fo := fun t2 ht2 => (half .o (.inr rfl) t2 ht2).2
    ft := fun r2 hr2 => by
      rcases mem_set hr2 with z | rfl
      · exact S.ft r2 z
      · rw [List.length_set]; exact S.ft r (List.mem_of_getElem? hr) }
/-- both go: what is kept is what is looked at from then on -/
theorem Sim.go {h2 : Hep} {φ2 : Val → Val} {Q2 : Val → Prop} (S : Sim n h roots ths φ Q) (s2 : Snd h2) (e2 : Emb h.fsOf Q2 φ2 h2) (er : h2.ro = h.ro.map φ2) (hr : ∀ v ∈ h.ro, v.isP = true → Q2 v) (hl : h2.yo.length + h2.ol.length ≤ h.yo.length + h.ol.length) (fy : ∀ t ∈ h2.yo, t.fs.length ≤ 150) (fo : ∀ t ∈ h2.ol, t.fs.length ≤ 150) :
    Sim n h2 roots ths (fun v => φ2 (φ v)) (fun v => Q v ∧ Q2 (φ v)) where
  s := s2
  em := S.em.comp e2
  ro := by rw [er, S.ro, List.map_map]; rfl
  qr := fun v hv hp => by
    have hq := S.qr v hv hp
    exact ⟨hq, hr (φ v) (by rw [S.ro]; exact List.mem_map.mpr ⟨v, hv, rfl⟩) (okP_isP (S.em.ok v hq))⟩
  qt := fun v hv => S.qt v hv.1
  lh := by have := S.lh; omega
  lt := S.lt
  lr := S.lr
  fy := fy
  fo := fo
  ft := S.ft
theorem filter_both {α : Type} {c : α → Bool} : ∀ {l : List α}, (l.filter fun k => !c k).length + (l.filter c).length = l.length
  | [] => rfl
  | a :: l => by
    have ih := filter_both (c := c) (l := l)
    cases e : c a <;> simp [List.filter_cons, e] <;> omega
theorem stay_late_len {pat : Int} {w : List Val} : (stayK h pat w).length + (lateK h pat w).length ≤ h.yo.length := by
  have h1 := filter_both (l := keptY h w) (c := isLate h pat)
  have h2 := chosen_len (n := h.yo.length) (c := met? .y w)
  show ((keptY h w).filter fun k => !isLate h pat k).length + ((keptY h w).filter (isLate h pat)).length ≤ _
  have h3 : (keptY h w).length ≤ h.yo.length := h2
  omega
theorem Sim.minor (S : Sim n h roots ths φ Q) (hn : n ≤ 2000) {pat : Int} {w : List Val} (d : Near h w) : Sim n (minorH h pat w) roots ths (fun v => mvV (minPs h pat w) (φ v)) (fun v => Q v ∧ KeepM h w (φ v)) := by
  have g := S.gd hn
  refine S.go (minor_snd g d) (minor_emb g d) rfl (fun v hv hp => keepM_root g d hv hp) ?_ (fun t ht => ?_) (olds_fs S.fy S.fo)
  · have h1 := stay_late_len (h := h) (pat := pat) (w := w)
    have h2 := olds_len (h := h) (pat := pat) (w := w)
    show (List.map _ _).length + (olds h pat w).length ≤ _
    rw [List.length_map]
    omega
  · obtain ⟨k, hk, rfl⟩ := List.mem_map.mp ht
    have := S.fy _ (List.mem_of_getElem? (stay_mem hk).2)
    simpa [grown] using this
theorem Sim.major (S : Sim n h roots ths φ Q) (hn : n ≤ 2000) {w : List Val} (d : Far h w) : Sim n (majorH h w) roots ths (fun v => mvV (majPs h w) (φ v)) (fun v => Q v ∧ φ v ∈ w) := by
  have g := S.gd hn
  refine S.go (major_snd g d) (major_emb g d) rfl (fun v hv hp => far_root d hv hp) ?_ (maj_fs (o := .y) (.inl rfl) S.fy) (maj_fs (o := .o) (.inr rfl) S.fo)
  have h1 := maj_len (h := h) (w := w) (o := .y) (.inl rfl)
  have h2 := maj_len (h := h) (w := w) (o := .o) (.inr rfl)
  show ((majorH h w).half .y).length + ((majorH h w).half .o).length ≤ (h.half .y).length + (h.half .o).length
  omega
end

theorem rsC {rb : Bxs} {a : Addr} {r : Rb} {rs : List (Addr × Rb)} (h : RsOf rb ((a, r) :: rs)) : ∃ b rbT, rb = (a, b) :: rbT ∧ b.rb = r ∧ b.wr = false ∧ RsOf rbT rs := by
  match rb, h with
  | (a', b) :: rbT, .cons h t =>
    obtain ⟨h1, h2, h3⟩ := h
    cases h1
    exact ⟨b, rbT, rfl, h2, h3, t⟩
theorem rs_mem : ∀ {rb : Bxs} {rs : List (Addr × Rb)}, RsOf rb rs → ∀ a r, (a, r) ∈ rs → ∃ b, (a, b) ∈ rb ∧ b.rb = r
  | _, _, .nil, a, r, h => by cases h
  | (a', b) :: rb, (a2, r2) :: rs, .cons h t, a, r, hm => by
    rcases List.mem_cons.mp hm with e | hm
    · injection e with e1 e2
      subst e1 e2
      have e0 : a' = a := h.1
      subst e0
      exact ⟨b, List.mem_cons_self, h.2.1⟩
    · obtain ⟨b', h1, h2⟩ := rs_mem t a r hm
      exact ⟨b', List.mem_cons_of_mem _ h1, h2⟩
theorem rs_sq : ∀ {rb : Bxs} {rs : List (Addr × Rb)}, RsOf rb rs → SqOf rb rs
  | _, _, .nil => .nil
  | _, _, .cons h t => .cons ⟨h.1, h.2.1⟩ (rs_sq t)
theorem sel_all : ∀ {l : Bxs}, Sel l l []
  | [] => .nil
  | _ :: _ => .cons .here sel_all
theorem sel_app : ∀ {l m : Bxs}, Sel (l ++ m) l m
  | [], _ => .nil
  | _ :: _, _ => .cons .here sel_app
theorem Sel.skip {p : Addr × Box} : ∀ {M l m : Bxs}, Sel M l m → Sel (p :: M) l (p :: m)
  | _, _, _, .nil => .nil
  | _, _, _, .cons h t => .cons (.there h) t.skip
theorem wkp_len {Q : Val → Prop} {n : Nat} {w : List Val} (hq : ∀ v, Q v → ∃ i : Nat, i < n ∧ v = .ptr .t (i : Int)) (hn : w.Nodup) (hw : ∀ v ∈ w, Q v) : w.length ≤ n := by
  have := nodup_le (b := (List.range n).map fun p : Nat => Val.ptr .t (p : Int)) hn fun v hv => by
    obtain ⟨i, hi, rfl⟩ := hq v (hw v hv)
    exact List.mem_map.mpr ⟨i, List.mem_range.mpr hi, rfl⟩
  simpa using this
theorem boxM_wr {t b q : Addr} {φ : Val → Val} {w : List Val} : ∀ p ∈ boxM t b q φ w, p.2.wr = true := fun p hp => by
  rcases List.mem_cons.mp hp with rfl | hp
  · rfl
  · rcases List.mem_cons.mp hp with rfl | hp
    · rfl
    · cases List.mem_singleton.mp hp; rfl
theorem pr_law_walked_k12 {K : PySem.W.Frag} {C : Exs} {vs : List V} {H : Hp} {Q : VK} {E : XK} (hsp : spOf K (fs_law_walked_k12 C) vs H Q E) : t_law_walked_k12 K C E { nx := fun _ H' => Q .non H', rt := Q } (L2.start n_law_walked_k12 vs) H := by
  refine body_of (t := fun E => t_law_walked_k12 K C E) hsp fun ⟨th, ts, h2, Q, φ, w0, t, b, q⟩ rb A nx rt E hK hp hr _ hF hN => ?_
  subst hK
  try dsimp only at hp hr
  skip
  unfold t_law_walked_k12
  show Ns A _ [some (.obj th), some h2.d, some (.obj t), some (.obj b), some (.obj q), none, none, none, none, none] (boxM t b q φ w0 ++ rb)
  obtain ⟨em, hq, hts, htl, hn0, hw0⟩ := hp
  have em : Emb (tfs (rowsOf ts)) Q φ h2 := em
  have hq : ∀ v, Q v → ∃ i : Nat, i < ts.length ∧ v = .ptr .t (i : Int) := hq
  have hts : ts.length ≤ 2000 := hts
  have hm := rs_mem hr
  have hr : RsOf rb (thsR th ts) := hr
  obtain ⟨bth, hbt, hbr⟩ := hm th (.l (ts.map fun t => .obj t.1)) List.mem_cons_self
  have mt : ∀ {w : List Val}, (th, bth) ∈ boxM t b q φ w ++ rb := fun {w} => List.mem_append_right _ hbt
  have all : ∀ k, (∀ v ∈ bfs Val.isP (tfs (rowsOf ts)) w0 k, Q v) ∧ (bfs Val.isP (tfs (rowsOf ts)) w0 k).length ≤ 2000 := fun k => by
    have h1 : ∀ v ∈ bfs Val.isP (tfs (rowsOf ts)) w0 k, Q v := bfs_all hw0 fun x hx y hy py => em.cl x hx y hy py
    exact ⟨h1, Nat.le_trans (wkp_len hq (bfs_nodup hn0) h1) hts⟩
  walk_at "go"
  refine ns_while (fun m G M => ∃ (k : Nat) (x6 x7 x8 x9 : Option D), m + k = 5000 ∧ G = [some (.obj th), some h2.d, some (.obj t), some (.obj b), some (.obj q), some (.int (k : Int)), x6, x7, x8, x9] ∧ M = boxM t b q φ (bfs Val.isP (tfs (rowsOf ts)) w0 k) ++ rb ∧ k ≤ (bfs Val.isP (tfs (rowsOf ts)) w0 k).length) 5000 ⟨0, _, _, _, _, rfl, rfl, rfl, Nat.zero_le _⟩ ?_
  rintro m _ _ ⟨k, x6, x7, x8, x9, hm2, rfl, rfl, hk⟩
  obtain ⟨b1, b2⟩ := all k
  generalize hw : bfs Val.isP (tfs (rowsOf ts)) w0 k = w at hk b1 b2
  walk_at "go"
  refine n_lmap (b := .lst _) mem2 rfl ?_
  walk_at "go"
  refine split_dec (fun hlt => ?_) (fun hge => ?_)
  · obtain ⟨v, hv⟩ : ∃ v, w[k]? = some v := ⟨_, List.getElem?_eq_getElem (by omega)⟩
    have qv := b1 v (List.mem_of_getElem? hv)
    have ap : AllP w := fun u hu => em.isP u (b1 u hu)
    obtain ⟨o2, p2, th2, ev2, ho2, hth2, hld2, hfs2⟩ := okP_get (em.ok v qv)
    have st := em.step v qv
    have cl := em.cl v qv
    obtain ⟨i, hi, rfl⟩ := hq v qv
    obtain ⟨⟨ai, vs⟩, hti⟩ : ∃ x, ts[i]? = some x := ⟨_, List.getElem?_eq_getElem hi⟩
    have eti : tfs (rowsOf ts) (.ptr .t (i : Int)) = vs := by
      rw [tfs_at, List.getD_eq_getElem?_getD, List.getElem?_map, hti]
      rfl
    rw [eti] at st cl
    have fl : vs.length ≤ 200 := htl _ (List.mem_of_getElem? hti)
    obtain ⟨bi, hbi, hbir⟩ := hm ai (.l (vs.map Val.d)) (List.mem_cons_of_mem _ (List.mem_map.mpr ⟨(ai, vs), List.mem_of_getElem? hti, rfl⟩))
    walk_at "go"
    refine x_lmap (b := .lst _) mem2 rfl (by omega) (by rw [show (k : Int).toNat = k by omega]; exact hv) ?_
    refine ⟨t, (φ (.ptr .t (i : Int))).d, rfl, ?_, ?_⟩
    · exact LookAt.ofT (M := boxM t b q φ w ++ rb) (p := t) (k := keyV (.ptr .t (i : Int))) (o := some (φ (.ptr .t (i : Int))).d) mem0 rfl (by rw [look_there rfl ap, if_pos (List.mem_of_getElem? hv)])
    walk_at "go"
    refine cf_v (args := fun g : Hep × Wd × Int => [g.1.d, (Val.ptr g.2.1 g.2.2).d]) (h2, o2, (p2 : Int)) (by rw [ev2]) ho2 ?_
    rw [show D.bl (Hep.leads (h2, o2, (p2 : Int)).1 (h2, o2, (p2 : Int)).2.1 (h2, o2, (p2 : Int)).2.2) = .bl true from congrArg D.bl hld2]
    walk_at "go"
    refine x_lmap (b := .lst _) mem2 rfl (by omega) (by rw [show (k : Int).toNat = k by omega]; exact hv) ?_
    walk_at "go"
    refine x_lmap (f := fun t : Addr × List Val => D.obj t.1) (x := (ai, vs)) mt hbr (by omega) (by rw [show (i : Int).toNat = i by omega]; exact hti) ?_
    walk_at "go"
    refine cf_v (args := fun g : Hep × Wd × Int => [g.1.d, (Val.ptr g.2.1 g.2.2).d]) (h2, o2, (p2 : Int)) (by rw [ev2]) hld2 ?_
    dsimp only
    rw [← ev2, st]
    walk_at "go"
    refine n_lmap (xs := vs) (f := Val.d) (List.mem_append_right _ hbi) hbir ?_
    walk_at "go"
    refine split_F (by simp) ?_
    walk_at "go"
    refine walk_row (oa := some ai) em b1 cl (by omega) (fun a e => by cases e; exact ⟨bi, hbi, hbir⟩) fun x9 => ?_
    walk_at "go"
    have e : bfs Val.isP (tfs (rowsOf ts)) w0 (k + 1) = meet Val.isP w vs := by
      rw [bfs_some (x := .ptr .t (i : Int)) (by rw [hw]; exact hv), hw, eti]
    refine ns_i ⟨m - 1, by omega, k + 1, _, _, _, _, by omega, rfl, by rw [e], ?_⟩
    obtain ⟨tl, e3⟩ := meet_pre (p := Val.isP) (vs := vs) (w := w)
    rw [e, e3, List.length_append]
    omega
  · walk_at "go"
    exact hF.1 _ _ _ (boxM t b q φ w) ⟨rfl, w, rfl⟩ boxM_wr ⟨rb, .cons .here (.cons .here (.cons .here .nil))⟩
theorem cf_wkp {A : Am} {C : Exs} {W : L2.St → XK} {G : Gm} {M rest pk rest2 : Bxs} {R : D → Bxs → Prop} {ds : List D} (g : WkpG) (ha : [.obj g.th, g.h2.d, .obj g.t, .obj g.b, .obj g.q] = ds) (hp : Emb (tfs (rowsOf g.ts)) g.Q g.φ g.h2 ∧ (∀ v, g.Q v → ∃ i : Nat, i < g.ts.length ∧ v = .ptr .t (i : Int)) ∧ g.ts.length ≤ 2000 ∧ (∀ t ∈ g.ts, t.2.length ≤ 200) ∧ g.w.Nodup ∧ (∀ v ∈ g.w, g.Q v))
    (hs : Sel M (boxM g.t g.b g.q g.φ g.w) rest) (hr : Sel rest pk rest2) (hq : SqOf pk (thsR g.th g.ts)) (k : ∀ w, R (.bl true) (boxM g.t g.b g.q g.φ w ++ rest)) : Cf A (fs_law_walked_k12 C) W ds G M R :=
  ⟨g, rest, pk, rest2, ha, hp, boxM_wr, hs, hr, hq, fun d M' ⟨h1, w, h3⟩ => by subst h1 h3; exact k w, fun _ h => h.elim⟩
theorem big60 : (0 : Int) < 10 ^ (60 : Int).toNat - 101 := by decide
theorem pr_law_number_by {K : PySem.W.Frag} {C : Exs} {vs : List V} {H : Hp} {Q : VK} {E : XK} (hsp : spOf K (fs_law_number_by C) vs H Q E) : t_law_number_by K C E { nx := fun _ H' => Q .non H', rt := Q } (L2.start n_law_number_by vs) H := by
  refine body_of (t := fun E => t_law_number_by K C E) hsp fun ⟨c, t⟩ rb A nx rt E hK hp hr _ hF hN => ?_
  subst hK
  try dsimp only at hp hr
  cases hr
  unfold t_law_number_by
  show Ns A _ [some (.int c), some (.int t)] []
  walk_at "g1i"
  refine ns_if ?_
  walk_at "g1i"
  refine split_dec (fun _ => ?_) (fun _ => ?_)
  · walk_at "g1i"
    refine p_mod big60 ?_
    walk_at "g1i"
    refine w_lst ?_
    walk_at "g1i"
    refine ⟨by simp, fun p => ?_⟩
    walk_at "g1i"
    refine x_two mem0 (by omega) (by omega) (fun _ => ?_) (fun _ => ?_)
    · refine p_mul (Or.inr ⟨by decide, by decide⟩) ?_
      exact fin0 hF ⟨⟨_, rfl⟩, rfl⟩
    · refine p_mul (Or.inr ⟨by decide, by decide⟩) ?_
      exact fin0 hF ⟨⟨_, rfl⟩, rfl⟩
  walk_at "g1i"
  exact fin0 hF ⟨⟨_, rfl⟩, rfl⟩
theorem perm_new {r th l : Addr} {roots us : List Val} {ts : List (Addr × List Val)} {x : Addr × Box} : (plB r th roots (ts ++ [(l, us)]) ++ [x]).Perm ((l, .lst (us.map Val.d)) :: x :: (r, .lst (roots.map Val.d)) :: (th, .lst ((ts.map fun t => D.obj t.1) ++ [.obj l])) :: (thB ts ++ [])) := by
  have e1 : (ts ++ [(l, us)]).map (fun t => D.obj t.1) = (ts.map fun t => D.obj t.1) ++ [.obj l] := by simp
  have e2 : thB (ts ++ [(l, us)]) = thB ts ++ [(l, .lst (us.map Val.d))] := by simp
  show ((r, Box.lst (roots.map Val.d)) :: (th, Box.lst ((ts ++ [(l, us)]).map fun t => D.obj t.1)) :: thB (ts ++ [(l, us)]) ++ [x]).Perm _
  rw [e1, e2, List.append_nil]
  have := List.perm_append_comm (l₁ := (r, Box.lst (roots.map Val.d)) :: (th, Box.lst ((ts.map fun t => D.obj t.1) ++ [.obj l])) :: thB ts) (l₂ := [(l, Box.lst (us.map Val.d)), x])
  simpa using this
theorem plB_wr {r th : Addr} {roots : List Val} {ts : List (Addr × List Val)} : ∀ p ∈ plB r th roots ts, p.2.wr = true := fun p hp => by
  rcases List.mem_cons.mp hp with rfl | hp
  · rfl
  · rcases List.mem_cons.mp hp with rfl | hp
    · rfl
    · obtain ⟨t, _, rfl⟩ := List.mem_map.mp hp
      rfl
/-- a part and what it is of the heap -/
abbrev prt (φ : Val → Val) (u : Val) : D := .tup [(φ u).d, u.d]
theorem gd_sml {h : Hep} (g : Gd h) : Sml h := by
  have := g.f.yo
  have := g.f.ol
  have := g.f.ro
  have := bk_len g
  exact ⟨by omega, by omega, by omega, fun t ht => by have := g.f.fy t ht; omega, fun t ht => by have := g.f.fo t ht; omega, by omega⟩
theorem up_thB {a : Addr} {row : List Val} {f : Nat} {u : Val} {m : Bxs} : ∀ {ts : List (Addr × List Val)} {i : Nat}, ts[i]? = some (a, row) → Up a (.lst (row.map Val.d)) (.lst ((row.map Val.d).set f u.d)) (thB ts ++ m) (thB (ts.set i (a, row.set f u)) ++ m)
  | [], _, h => by simp at h
  | t :: ts, 0, h => by
    simp at h
    subst h
    show Up a _ _ ((a, .lst (row.map Val.d)) :: (thB ts ++ m)) ((a, .lst ((row.set f u).map Val.d)) :: (thB ts ++ m))
    rw [set_map]
    exact .here
  | t :: ts, i + 1, h => .there (up_thB (ts := ts) (by simpa using h))
theorem obj_set {a : Addr} {row r2 : List Val} {ts : List (Addr × List Val)} {i : Nat} (h : ts[i]? = some (a, row)) : (ts.set i (a, r2)).map (fun t => D.obj t.1) = ts.map fun t => D.obj t.1 := by
  rw [set_map]
  exact set_id (by rw [List.getElem?_map, h]; rfl)
theorem rows_set {a : Addr} {r2 : List Val} {ts : List (Addr × List Val)} {i : Nat} : rowsOf (ts.set i (a, r2)) = (rowsOf ts).set i r2 := set_map
theorem rows_at {ts : List (Addr × List Val)} {i : Nat} {r : List Val} (h : (rowsOf ts)[i]? = some r) : ∃ a, ts[i]? = some (a, r) := by
  obtain ⟨⟨a, r'⟩, h1, rfl⟩ := map_get h
  exact ⟨a, h1⟩
theorem at_ptr {h : Hep} {o : Wd} {p : Nat} {t : Thing} (hl : h.leads o (p : Int) = true) (ht : (h.half o)[p]? = some t) : h.at? (.ptr o (p : Int)) = some t := by
  show (if h.leads o (p : Int) then (h.half o)[(p : Int).toNat]? else none) = some t
  rw [hl, if_pos rfl, show (p : Int).toNat = p by omega, ht]
section
variable {A : Am} {C : Exs} {W : L2.St → XK} {G : Gm} {M rest : Bxs} {R : D → Bxs → Prop} {ds : List D}
/-- a root is held -/
theorem cf_hold (h : Hep) (k : Int) (x : Val) (ha : [h.d, .int k, x.d] = ds) (hl : h.ro.length ≤ 100000) (hk : inR k h.ro.length = true) (hx : h.okV x = true) (kk : R (Hep.d { h with ro := h.ro.set k.toNat x }) M) : Cf A (fs_hold C) W ds G M R :=
  cf_x (args := fun g : Hep × Int × Val => [g.1.d, .int g.2.1, g.2.2.d]) (h, k, x) ha hl (fun d hd => by obtain ⟨_, _, rfl⟩ := hd; exact kk) fun cls z => by
    rcases z with ⟨z, _⟩ | ⟨_, z, _⟩
    · exact absurd (hk.symm.trans z) (by simp)
    · exact absurd (hx.symm.trans z) (by simp)
end
theorem x_four {A : Am} {G : Gm} {M : Bxs} {R : D → Bxs → Prop} {a : Addr} {i : Int} {xs : List D} (hm : (a, Box.lst xs) ∈ M) (h0 : 0 ≤ i) (hi : i < xs.length) (k : ∀ x ∈ xs, R x M) : Op2 A (rIx A.K) (.obj a) (.int i) G M R := by
  obtain ⟨x, hx⟩ : ∃ x, xs[i.toNat]? = some x := ⟨_, List.getElem?_eq_getElem (by omega)⟩
  exact o_ixL hm rfl (atI_of h0 hx) (k x (List.mem_of_getElem? hx))
section
variable {A : Am} {G : Gm} {M : Bxs} {te : TE} {R : D → Bxs → Prop} {wa : TA} {j : Nat}
end
theorem pl_sq : ∀ {ts : List (Addr × List Val)}, SqOf (thB ts) (thR ts)
  | [] => .nil
  | _ :: _ => .cons ⟨rfl, rfl⟩ pl_sq
theorem plB_sq {r th : Addr} {roots : List Val} {ts : List (Addr × List Val)} : SqOf (plB r th roots ts) (plR r th roots ts) := .cons ⟨rfl, rfl⟩ (.cons ⟨rfl, rfl⟩ pl_sq)
/-- a heap begun, and a plain list of nothing -/
theorem Sim.start {n : Nat} (hn : n ≤ 200) : Sim 0 ⟨[], [], List.replicate n .non, []⟩ (List.replicate n .non) [] (fun v => v) (fun _ => False) where
  s := ⟨fun v hv => by rw [List.eq_of_mem_replicate hv]; exact ⟨rfl, rfl⟩, fun _ h => (nomatch h), fun _ h => (nomatch h), rfl⟩
  em := ⟨fun _ _ => rfl, fun _ h => h.elim, fun _ h => h.elim, fun _ _ h => h.elim, fun _ h => h.elim, fun _ h => h.elim⟩
  ro := by simp
  qr := fun v hv hp => by rw [List.eq_of_mem_replicate hv] at hp; cases hp
  qt := fun _ h => h.elim
  lh := Nat.le_refl _
  lt := Nat.le_refl _
  lr := by simpa using hn
  fy := fun _ h => (nomatch h)
  fo := fun _ h => (nomatch h)
  ft := fun _ h => (nomatch h)
/-- a part of a list of numbers -/
theorem cut_ints {ns : List Int} {lo hi : Nat} : ∃ ms : List Int, cutD (ns.map D.int) (some (lo : Int)) (some (hi : Int)) = ms.map D.int ∧ ms.length ≤ hi - lo := by
  refine ⟨(ns.drop (HT.sIx (ns.map D.int).length 0 (some (lo : Int)))).take (HT.sIx (ns.map D.int).length (ns.map D.int).length (some (hi : Int)) - HT.sIx (ns.map D.int).length 0 (some (lo : Int))), ?_, ?_⟩
  · unfold cutD
    rw [List.map_take, List.map_drop]
  · rw [HT.sIx_nat, HT.sIx_nat]
    simp
    omega
/-! what is come to is always to be had -/
theorem done_ex {p : Val → Bool} {f : Val → List Val} {w0 : List Val} {N : Nat} (hb : ∀ k, (bfs p f w0 k).length ≤ N) : ∃ w, Done p f w0 w := by
  have ex : ∃ k, (bfs p f w0 k).length ≤ k := ⟨N, hb N⟩
  have key : ∀ k, (bfs p f w0 k).length ≤ k → ∃ j, (bfs p f w0 j).length = j := fun k => by
    induction k with
    | zero => exact fun h => ⟨0, by omega⟩
    | succ k ih =>
      intro h
      by_cases hk : (bfs p f w0 k).length ≤ k
      · exact ih hk
      · obtain ⟨t, e⟩ := bfs_step (p := p) (f := f) (w := w0) (k := k)
        refine ⟨k + 1, ?_⟩
        rw [e, List.length_append] at h ⊢
        omega
  obtain ⟨k, hk⟩ := ex
  obtain ⟨j, hj⟩ := key k hk
  exact ⟨_, j, rfl, hj⟩
theorem near_spec {h : Hep} (g : Gd h) : Near h (nearOf h) := Classical.epsilon_spec (done_ex fun k => (bfs_ok g (p := Val.yng) (fun v z => yng_p z) (gd_firsts g) (k := k)).2)
theorem far_spec {h : Hep} (g : Gd h) : Far h (farOf h) := Classical.epsilon_spec (done_ex fun k => (bfs_ok g (p := Val.isP) (fun v z => z) g.s.ro (k := k)).2)
theorem minorF_eq {h : Hep} (g : Gd h) {pat : Int} {w : List Val} (d : Near h w) : minorH h pat w = minorF h pat := by
  unfold minorF
  rw [(near_spec g).uniq d]
theorem majorF_eq {h : Hep} (g : Gd h) {w : List Val} (d : Far h w) : majorH h w = majorF h := by
  unfold majorF
  rw [(far_spec g).uniq d]
/-! the plain list beside the heap, deed by deed -/
theorem rootAt_get {rs : List Val} {k : Int} {v : Val} (h : rootAt rs k = some v) : inR k rs.length = true ∧ rs[k.toNat]? = some v := by
  unfold rootAt at h
  split at h
  · rename_i e
    exact ⟨e, h⟩
  · cases h
theorem rootAt_map {rs : List Val} {φ : Val → Val} {k : Int} : rootAt (rs.map φ) k = (rootAt rs k).map φ := by
  unfold rootAt
  rw [List.length_map, List.getElem?_map]
  split <;> rfl
theorem partAt_map {rs : List Val} {φ : Val → Val} {p : Val} (hp : p.pt = true) (fx : ∀ v, v.isP = false → φ v = v) : partAt (rs.map φ) p = (partAt rs p).map φ := by
  cases p with
  | ptr w j => exact rootAt_map
  | non => show some Val.non = some (φ .non); rw [fx _ rfl]
  | num i => show some (Val.num i) = some (φ (.num i)); rw [fx _ rfl]
theorem partAt_q {rs : List Val} {Q : Val → Prop} {p v : Val} (hr : ∀ v ∈ rs, v.isP = true → Q v) (h : partAt rs p = some v) (hv : v.isP = true) : Q v := by
  cases p with
  | ptr w j => exact hr v (List.mem_of_getElem? (rootAt_get h).2) hv
  | non => cases h; cases hv
  | num i => cases h; cases hv
theorem partVals_map {rs : List Val} {φ : Val → Val} {ps : List Val} (hp : ∀ p ∈ ps, p.pt = true) (fx : ∀ v, v.isP = false → φ v = v) : partVals (rs.map φ) ps = (partVals rs ps).map φ := by
  unfold partVals
  rw [List.map_map]
  refine List.map_congr_left fun p hm => ?_
  show (partAt (rs.map φ) p).getD .non = φ ((partAt rs p).getD .non)
  rw [partAt_map (hp p hm) fx]
  cases partAt rs p with
  | none => exact (fx .non rfl).symm
  | some v => rfl
theorem allParts_map {rs : List Val} {φ : Val → Val} {ps : List Val} (hp : ∀ p ∈ ps, p.pt = true) (fx : ∀ v, v.isP = false → φ v = v) : allParts (rs.map φ) ps = allParts rs ps := by
  unfold allParts
  rw [Bool.eq_iff_iff, List.all_eq_true, List.all_eq_true]
  constructor <;> intro h p hm <;> have := h p hm <;> rw [partAt_map (hp p hm) fx, Option.isSome_map] at * <;> exact this
theorem partVals_q {rs : List Val} {Q : Val → Prop} {ps : List Val} (hr : ∀ v ∈ rs, v.isP = true → Q v) : ∀ u ∈ partVals rs ps, u.isP = true → Q u := fun u hu hp => by
  obtain ⟨p, hm, rfl⟩ := List.mem_map.mp hu
  cases e : partAt rs p with
  | none => rw [e] at hp; cases hp
  | some v =>
    rw [e] at hp
    exact partAt_q hr e hp
section
variable {n : Nat} {h : Hep} {s : Pl} {φ : Val → Val} {Q : Val → Prop} {room pat : Int}
theorem Sim.row (S : Sim n h s.ro s.th φ Q) {x : Val} (hq : x.isP = true → Q x) : (x.isP = false ∧ s.row x = none ∧ h.at? (φ x) = none ∧ φ x = x) ∨
    ∃ (i : Nat) (r : List Val) (o : Wd) (p : Nat) (t : Thing), x = .ptr .t (i : Int) ∧ s.row x = some r ∧ s.th[i]? = some r ∧ φ x = .ptr o (p : Int) ∧ (o = .y ∨ o = .o) ∧ (h.half o)[p]? = some t ∧ h.at? (φ x) = some t ∧ t.fs = r.map φ ∧ (∀ u ∈ r, u.isP = true → Q u) ∧ Q x ∧ r.length ≤ 150 := by
  cases e : x.isP with
  | false =>
    have fx := S.em.fix x e
    refine .inl ⟨rfl, ?_, ?_, fx⟩
    · cases x with
      | ptr w p => cases e
      | non => rfl
      | num i => rfl
    · rw [fx]
      cases x with
      | ptr w p => cases e
      | non => rfl
      | num i => rfl
  | true =>
    obtain ⟨i, r, o, p, t, rfl, hr, ev, ho, ht, hl, hf, hc, hlr⟩ := S.thing (hq e)
    refine .inr ⟨i, r, o, p, t, rfl, ?_, hr, ev, ho, ht, by rw [ev]; exact at_ptr hl ht, hf, hc, hq e, hlr⟩
    show s.th[(i : Int).toNat]? = some r
    rw [show (i : Int).toNat = i by omega]
    exact hr
theorem Sims.gd (S : Sims n h s) (hn : n ≤ 2000) : Gd h := by
  obtain ⟨φ, Q, S⟩ := S
  exact S.gd hn
theorem Sims.up {m : Nat} (S : Sims n h s) (hm : n ≤ m) : Sims m h s := by
  obtain ⟨φ, Q, S⟩ := S
  exact ⟨φ, Q, S.up hm⟩
theorem Sims.minor (S : Sims n h s) (hn : n ≤ 2000) : Sims n (minorF h pat) s := by
  have g := S.gd hn
  obtain ⟨φ, Q, S⟩ := S
  exact ⟨_, _, S.minor hn (near_spec g)⟩
theorem Sims.major (S : Sims n h s) (hn : n ≤ 2000) : Sims n (majorF h) s := by
  have g := S.gd hn
  obtain ⟨φ, Q, S⟩ := S
  exact ⟨_, _, S.major hn (far_spec g)⟩
theorem Sims.roomy (S : Sims n h s) (hn : n ≤ 2000) : Sims n (roomy room pat h) s := by
  unfold Mv.roomy
  split
  · exact S.minor hn
  · exact S
theorem Sims.root (S : Sims n h s) {k : Int} : (rootAt h.ro k).isSome = (rootAt s.ro k).isSome := by
  obtain ⟨φ, Q, S⟩ := S
  rw [S.ro, rootAt_map, Option.isSome_map]
theorem Sims.parts (S : Sims n h s) {ps : List Val} (hp : ∀ p ∈ ps, p.pt = true) : allParts h.ro ps = allParts s.ro ps := by
  obtain ⟨φ, Q, S⟩ := S
  rw [S.ro, allParts_map hp S.em.fix]
/-- a make that is done -/
theorem Sims.make (S : Sims n h s) {k : Int} {ps : List Val} (hp : ∀ p ∈ ps, p.pt = true) (hl : ps.length ≤ 100) : Sims (n + 1) (h.made k (partVals h.ro ps)) ⟨s.ro.set k.toNat (.ptr .t (s.th.length : Int)), s.th ++ [partVals s.ro ps]⟩ := by
  obtain ⟨φ, Q, S⟩ := S
  have S1 := S.made (us := partVals s.ro ps) (partVals_q S.qr) (by unfold partVals; rw [List.length_map]; omega)
  have S2 := S1.hold (u := .ptr .t (s.th.length : Int)) (k := k.toNat) fun _ => .inr rfl
  rw [more_new, ← partVals_map hp S.em.fix, ← S.ro] at S2
  exact ⟨_, _, S2⟩
/-- a deed, in the heap and in the plain list -/
theorem sim_step (S : Sims n h s) (hn : n ≤ 1900) {d : Deed} (ok : d.ok) : (hpStep room pat h d).2 = (plStep s d).2 ∧ Sims (n + 1) (hpStep room pat h d).1 (plStep s d).1 := by
  cases d with
  | minor => exact ⟨rfl, (S.minor (by omega)).up (by omega)⟩
  | major => exact ⟨rfl, (S.major (by omega)).up (by omega)⟩
  | make k ps =>
    obtain ⟨hl, hp⟩ := ok
    unfold hpStep
    rw [if_neg (by simp [Deed.ask])]
    dsimp only [chg, plStep]
    rw [S.root, S.parts hp]
    cases (rootAt s.ro k).isSome && allParts s.ro ps with
    | true => exact ⟨rfl, (S.roomy (by omega)).make hp hl⟩
    | false => exact ⟨rfl, S.up (by omega)⟩
  | look k =>
    obtain ⟨φ, Q, S⟩ := S
    refine ⟨?_, ?_⟩
    · show ((asks h (.look k)).getD (.str "no root")) = _
      dsimp only [asks, plStep]
      rw [S.ro, rootAt_map]
      cases e : rootAt s.ro k with
      | none => rfl
      | some x =>
        have hq := S.qr x (List.mem_of_getElem? (rootAt_get e).2)
        rcases S.row hq with ⟨_, h1, h2, h3⟩ | ⟨i, r, o, p, t, rfl, h1, _, _, _, _, h2, hf, _⟩
        · rw [h3] at h2
          simp only [Option.map_some, Option.getD_some, h1, h2, h3]
        · simp only [Option.map_some, Option.getD_some, h1, h2, hf, List.length_map]
    · have : (plStep s (.look k)).1 = s := by
        dsimp only [plStep]
        split
        · split <;> rfl
        · rfl
      rw [this]
      exact ⟨φ, Q, S.up (by omega)⟩
  | same k j =>
    obtain ⟨φ, Q, S⟩ := S
    refine ⟨?_, ?_⟩
    · show ((asks h (.same k j)).getD (.str "no root")) = _
      dsimp only [asks, plStep]
      rw [S.ro, rootAt_map, rootAt_map]
      cases e : rootAt s.ro k with
      | none => rfl
      | some x =>
        cases e2 : rootAt s.ro j with
        | none => rfl
        | some y =>
          have hq := S.qr x (List.mem_of_getElem? (rootAt_get e).2)
          have hq2 := S.qr y (List.mem_of_getElem? (rootAt_get e2).2)
          show D.bl ((φ x).isP && decide (φ x = φ y)) = D.bl (x.isP && decide (x = y))
          rw [S.isP hq]
          cases ex : x.isP with
          | false => rfl
          | true =>
            congr 1
            rw [Bool.true_and, Bool.true_and, decide_eq_decide]
            refine ⟨fun z => ?_, fun z => by rw [z]⟩
            have ey : y.isP = true := by rw [← S.isP hq2, ← z, S.isP hq]; exact ex
            exact S.em.inj x y (hq ex) (hq2 ey) z
    · have : (plStep s (.same k j)).1 = s := by
        dsimp only [plStep]
        split <;> rfl
      rw [this]
      exact ⟨φ, Q, S.up (by omega)⟩
  | set k p =>
    obtain ⟨φ, Q, S⟩ := S
    have ok : p.pt = true := ok
    unfold hpStep
    rw [if_neg (by simp [Deed.ask])]
    dsimp only [chg, plStep]
    rw [S.ro, rootAt_map, partAt_map ok S.em.fix]
    cases e : rootAt s.ro k with
    | none => exact ⟨rfl, φ, Q, S.up (by omega)⟩
    | some x =>
      cases e2 : partAt s.ro p with
      | none => exact ⟨rfl, φ, Q, S.up (by omega)⟩
      | some v => exact ⟨rfl, φ, Q, (S.hold (k := k.toNat) (partAt_q S.qr e2)).up (by omega)⟩
  | put k f p =>
    obtain ⟨φ, Q, S⟩ := S
    have ok : p.pt = true := ok
    unfold hpStep
    rw [if_neg (by simp [Deed.ask])]
    dsimp only [chg, plStep]
    rw [S.ro, rootAt_map, partAt_map ok S.em.fix]
    cases e : rootAt s.ro k with
    | none => exact ⟨rfl, φ, Q, S.up (by omega)⟩
    | some x =>
      cases e2 : partAt s.ro p with
      | none => exact ⟨rfl, φ, Q, S.up (by omega)⟩
      | some v =>
        have hq := S.qr x (List.mem_of_getElem? (rootAt_get e).2)
        dsimp only [Option.map_some]
        rcases S.row hq with ⟨e3, h1, h2, h3⟩ | ⟨i, r, o, q, t, rfl, h1, hr, ev, ho, ht, h2, hf, hc, qx, _⟩
        · rw [h2, h1]
          have e4 : (φ x).isP = false := by rw [h3]; exact e3
          cases x with
          | ptr w q => cases e3
          | non => rw [h3]; exact ⟨rfl, φ, Q, S.up (by omega)⟩
          | num i => rw [h3]; exact ⟨rfl, φ, Q, S.up (by omega)⟩
        · rw [h2, h1, ev]
          dsimp only
          rw [hf, List.length_map]
          cases ef : inR f r.length with
          | false => exact ⟨rfl, φ, Q, S.up (by omega)⟩
          | true =>
            obtain ⟨f', rfl⟩ : ∃ f' : Nat, f = (f' : Int) := ⟨f.toNat, by have := (inR_pos ef).1; omega⟩
            have S2 := (S.put (f := f') qx hr ev ho ht hf (partAt_q S.qr e2)).up (show n ≤ n + 1 by omega)
            refine ⟨rfl, φ, Q, ?_⟩
            rw [if_pos rfl, if_pos rfl]
            show Sim (n + 1) (h.put o (q : Int) (f' : Int) t (φ v)) s.ro (s.th.set (i : Int).toNat (r.set (f' : Int).toNat v)) φ Q
            rw [show (i : Int).toNat = i by omega, show (f' : Int).toNat = f' by omega]
            exact S2
  | take k j f =>
    obtain ⟨φ, Q, S⟩ := S
    unfold hpStep
    rw [if_neg (by simp [Deed.ask])]
    dsimp only [chg, plStep]
    rw [S.ro, rootAt_map, rootAt_map]
    cases e : rootAt s.ro k with
    | none => exact ⟨rfl, φ, Q, S.up (by omega)⟩
    | some y =>
      cases e2 : rootAt s.ro j with
      | none => exact ⟨rfl, φ, Q, S.up (by omega)⟩
      | some x =>
        have hq := S.qr x (List.mem_of_getElem? (rootAt_get e2).2)
        dsimp only [Option.map_some]
        rcases S.row hq with ⟨e3, h1, h2, h3⟩ | ⟨i, r, o, q, t, rfl, h1, hr, ev, ho, ht, h2, hf, hc, qx, _⟩
        · rw [h2, h1]
          exact ⟨rfl, φ, Q, S.up (by omega)⟩
        · rw [h2, h1]
          dsimp only
          rw [hf, List.length_map]
          cases ef : inR f r.length with
          | false => exact ⟨rfl, φ, Q, S.up (by omega)⟩
          | true =>
            have hin := inR_pos ef
            have hu := List.getElem?_eq_getElem (show f.toNat < r.length by omega)
            have e5 : (r.map φ).getD f.toNat .non = φ (r.getD f.toNat .non) := by
              rw [List.getD_eq_getElem?_getD, List.getD_eq_getElem?_getD, List.getElem?_map, hu]
              rfl
            refine ⟨rfl, φ, Q, ?_⟩
            rw [if_pos rfl, if_pos rfl, e5]
            refine (S.hold (k := k.toNat) (u := r.getD f.toNat .non) fun z => ?_).up (by omega)
            rw [List.getD_eq_getElem?_getD, hu] at z ⊢
            exact hc _ (List.mem_of_getElem? hu) z
end

theorem pr_root_of {K : PySem.W.Frag} {C : Exs} {vs : List V} {H : Hp} {Q : VK} {E : XK} (hsp : spOf K (fs_root_of C) vs H Q E) : t_root_of K C E { nx := fun _ H' => Q .non H', rt := Q } (L2.start n_root_of vs) H := by
  refine body_of (t := fun E => t_root_of K C E) hsp fun ⟨h, k⟩ rb A nx rt E hK hp hr _ hF hN => ?_
  subst hK
  try dsimp only at hp hr
  cases hr
  unfold t_root_of
  show Ns A _ [some h.d, some (.int k)] []
  refine ns_seq (ns_ifB (fun b => b = !inR k h.ro.length) ?_ (fun e => ?_) (fun e => ?_))
  · walk_at "go"
    refine split_dec (fun h0 => ?_) (fun h0 => ?_) <;> walk_at "go" <;> refine ⟨?_, .refl _⟩
    · simp [inR, h0]
    · simp [inR, h0]
  · refine ns_raise (hF.2 _ _ _ ⟨?_, rfl⟩ rfl)
    have e : inR k h.ro.length = false := by simpa using e.symm
    show rootAt h.ro k = none
    unfold rootAt
    rw [e, if_neg (by simp)]
  have hk : inR k h.ro.length = true := by simpa using e.symm
  have hin := inR_pos hk
  obtain ⟨v, hv⟩ : ∃ v, h.ro[k.toNat]? = some v := ⟨_, List.getElem?_eq_getElem (by omega)⟩
  walk_at "go"
  refine x_map hin.1 hv ?_
  refine fin0 hF ⟨⟨v, ?_, rfl⟩, rfl⟩
  show rootAt h.ro k = some v
  unfold rootAt
  rw [hk, if_pos rfl, hv]
section
variable {A : Am} {C : Exs} {W : L2.St → XK} {G : Gm} {M : Bxs} {R : D → Bxs → Prop} {ds : List D}
theorem cf_root (h : Hep) (k : Int) (ha : [h.d, .int k] = ds) (kk : ∀ v, rootAt h.ro k = some v → R v.d M) (kx : rootAt h.ro k = none → EwS A W G M (.ref C.nr)) : Cf A (fs_root_of C) W ds G M R :=
  cf_x (args := fun g : Hep × Int => [g.1.d, .int g.2]) (h, k) ha trivial (fun d hd => by obtain ⟨v, e, rfl⟩ := hd; exact kk v e) fun cls hx => by obtain ⟨e, rfl⟩ := hx; exact kx e
theorem cf_part (h : Hep) (p : Val) (ha : [h.d, p.d] = ds) (kk : ∀ v, partAt h.ro p = some v → R v.d M) (kx : partAt h.ro p = none → EwS A W G M (.ref C.nr)) : Cf A (fs_part_of C) W ds G M R :=
  cf_x (args := fun g : Hep × Val => [g.1.d, g.2.d]) (h, p) ha trivial (fun d hd => by obtain ⟨v, e, rfl⟩ := hd; exact kk v e) fun cls hx => by obtain ⟨e, rfl⟩ := hx; exact kx e
end
theorem pr_part_of {K : PySem.W.Frag} {C : Exs} {vs : List V} {H : Hp} {Q : VK} {E : XK} (hsp : spOf K (fs_part_of C) vs H Q E) : t_part_of K C E { nx := fun _ H' => Q .non H', rt := Q } (L2.start n_part_of vs) H := by
  refine body_of (t := fun E => t_part_of K C E) hsp fun ⟨h, p⟩ rb A nx rt E hK hp hr _ hF hN => ?_
  subst hK
  try dsimp only at hp hr
  cases hr
  unfold t_part_of
  show Ns A _ [some h.d, some p.d] []
  walk_at "go"
  refine cf_v (args := fun x => [x]) p.d rfl (val_plain p) ?_
  rw [val_isT]
  walk_at "go"
  cases p with
  | non => exact split_lit_f (ns_next (ns_ret (w_var rfl (fin0 hF ⟨⟨_, rfl, rfl⟩, rfl⟩))))
  | num i => exact split_lit_f (ns_next (ns_ret (w_var rfl (fin0 hF ⟨⟨_, rfl, rfl⟩, rfl⟩))))
  | ptr w j =>
    refine split_lit_t ?_
    walk_at "go"
    refine cf_root h j rfl (fun v e => ?_) fun e => ?_
    · exact fin0 hF ⟨⟨v, e, rfl⟩, rfl⟩
    · exact hF.2 _ _ _ ⟨e, rfl⟩ rfl
theorem part_okV {h : Hep} (s : Snd h) {p v : Val} (e : partAt h.ro p = some v) : h.okV v = true ∧ v.yo = true := by
  refine okV_pic fun hp => ?_
  cases p with
  | ptr w j =>
    have := s.ro v (List.mem_of_getElem? (rootAt_get e).2)
    exact okP_of this.1 this.2 hp
  | non => cases e; cases hp
  | num i => cases e; cases hp
theorem pr_made_at {K : PySem.W.Frag} {C : Exs} {vs : List V} {H : Hp} {Q : VK} {E : XK} (hsp : spOf K (fs_made_at C) vs H Q E) : t_made_at K C E { nx := fun _ H' => Q .non H', rt := Q } (L2.start n_made_at vs) H := by
  refine body_of (t := fun E => t_made_at K C E) hsp fun ⟨⟨n, h, s, dd, room, pat⟩, k, ps⟩ rb A nx rt E hK hp hr _ hF hN => ?_
  subst hK
  try dsimp only at hp hr
  cases hr
  unfold t_made_at
  show Ns A _ [some h.d, some (.tup [.str "make", .int k, row ps]), some (.int room), some (.int pat), none, none] []
  obtain ⟨⟨S, hn, ok⟩, e⟩ := hp
  have e : dd = .make k ps := e
  subst e
  have S : Sims n h s := S
  have hn : n ≤ 1900 := hn
  obtain ⟨hl, hpt⟩ : ps.length ≤ 100 ∧ ∀ p ∈ ps, p.pt = true := ok
  have no : ((rootAt h.ro k).isSome && allParts h.ro ps) = false → chg room pat h (.make k ps) = .noRoot := fun z => by
    dsimp only [chg]
    rw [z, if_neg (by simp)]
  walk_at "go"
  refine cf_root h k rfl (fun v0 e0 => ?_) fun e0 => ?_
  rotate_left
  · exact hF.2 _ _ _ ⟨no (by rw [e0]; rfl), rfl⟩ rfl
  walk_at "go"
  refine ns_forT (ds := ps.map Val.d) (fun i G M => ∃ x5, G = [some h.d, some (.tup [.str "make", .int k, row ps]), some (.int room), some (.int pat), none, x5] ∧ M = [] ∧ ∀ p ∈ ps.take i, (partAt h.ro p).isSome = true) ?_ ?_ ?_
  · walk_at "go"
    refine x_c2 ?_
    exact ⟨rfl, none, rfl, rfl, fun p hp => (by simp at hp)⟩
  · rintro Hb ht i d _ _ hd ⟨x5, rfl, rfl, hi⟩
    obtain ⟨p, hp2, rfl⟩ := map_get hd
    walk_at "go"
    refine cf_part h p rfl (fun v e => ?_) fun e => ?_
    · refine ns_i ⟨_, rfl, rfl, fun q hq => ?_⟩
      rw [take_snoc hp2] at hq
      rcases List.mem_append.mp hq with z | z
      · exact hi q z
      · cases List.mem_singleton.mp z
        rw [e]; rfl
    · refine (hF.re ht).2 _ _ _ ⟨no ?_, rfl⟩ rfl
      rw [Bool.and_eq_false_iff]
      refine .inr ?_
      unfold allParts
      rw [List.all_eq_false]
      exact ⟨p, List.mem_of_getElem? hp2, by rw [e]; simp⟩
  rintro _ _ ⟨x5, rfl, rfl, hi⟩
  rw [List.length_map, List.take_length] at hi
  have hall : allParts h.ro ps = true := List.all_eq_true.mpr hi
  have hr0 : (rootAt h.ro k).isSome = true := by rw [e0]; rfl
  have yes : chg room pat h (.make k ps) = .ok ((roomy room pat h).made k (partVals (roomy room pat h).ro ps)) := by
    dsimp only [chg]
    rw [hall, hr0]
    rfl
  have S1 := S.roomy (room := room) (pat := pat) (by omega)
  have hall1 : allParts (roomy room pat h).ro ps = true := by rw [S1.parts hpt, ← S.parts hpt]; exact hall
  have hr1 : (rootAt (roomy room pat h).ro k).isSome = true := by rw [S1.root, ← S.root]; exact hr0
  have gd := S.gd (by omega)
  have gd1 := S1.gd (by omega)
  refine ns_seq (ns_ifA (fun d => d = (roomy room pat h).d) ?_ ?_)
  · walk_at "go"
    refine split_dec (fun z => ?_) (fun z => ?_)
    · walk_at "go"
      refine cf_x (args := fun g : Hep × Int => [g.1.d, .int g.2]) (h, pat) rfl gd (fun d hd => ?_) fun _ z => z.elim
      obtain ⟨w, dw, rfl⟩ := hd
      refine ⟨.refl _, ?_⟩
      show (minorH h pat w).d = _
      rw [minorF_eq gd dw]
      unfold roomy
      rw [if_pos z]
    · refine ⟨.refl _, _, rfl, ?_⟩
      unfold roomy
      rw [if_neg z]
  rintro _ rfl
  generalize roomy room pat h = h1 at yes S1 hall1 hr1 gd1
  walk_at "cl"
  walk_at "go"
  refine w_lcTP (xs := ps.map Val.d) (fun i e => ∀ p, ps[i]? = some p → e = ((partAt h1.ro p).getD .non).d) ?_
  walk_at "go"
  refine x_c2 ?_
  refine ⟨rfl, by rw [List.length_map]; omega, fun Hb ht p2 i acc d hd => ?_, fun p2 acc hla hP => ?_⟩
  · obtain ⟨p, hp2, rfl⟩ := map_get hd
    have hs := List.all_eq_true.mp hall1 p (List.mem_of_getElem? hp2)
    walk_at "go"
    refine cf_part h1 p rfl (fun v e => ?_) fun e => ?_
    · refine ⟨fun q hq => ?_, .refl _⟩
      rw [hp2] at hq
      cases hq
      rw [e]; rfl
    · rw [e] at hs
      cases hs
  have ea := all_of (f := Val.d) (g := fun p => (partAt h1.ro p).getD .non) (bs := ps) (acc := acc) (by rw [hla, List.length_map]) fun i e v h1 h2 => hP i e h1 v h2
  subst ea
  rw [show ps.map (fun p => (partAt h1.ro p).getD .non) = partVals h1.ro ps from rfl]
  have av : (partVals h1.ro ps).all h1.okV = true := List.all_eq_true.mpr fun x hx => by
    obtain ⟨p, hm, rfl⟩ := List.mem_map.mp hx
    have hs := List.all_eq_true.mp hall1 p hm
    cases e : partAt h1.ro p with
    | none => rw [e] at hs; cases hs
    | some v => exact (part_okV gd1.s e).1
  have hro : inR k (h1.more (partVals h1.ro ps)).ro.length = true := by
    cases e : rootAt h1.ro k with
    | none => rw [e] at hr1; cases hr1
    | some v => exact (rootAt_get e).1
  have gy := gd1.f.yo
  have gr := gd1.f.ro
  generalize partVals h1.ro ps = us at yes av hro
  walk_at "go"
  refine c_tupL (b := .lst _) mem0 rfl ?_
  walk_at "go"
  refine cf_x (args := fun g : Hep × List Val => [g.1.d, row g.2]) (h1, us) rfl (by show h1.yo.length ≤ _; omega) (fun d hd => ?_) fun cls z => absurd (av.symm.trans z.1) (by simp)
  obtain ⟨_, rfl⟩ := hd
  walk_at "go"
  have hok : (h1.more us).okV (.ptr .y (h1.yo.length : Int)) = true := by
    show inR (h1.yo.length : Int) (h1.yo ++ [_]).length = true
    exact inR_of (by omega) (by simp; omega)
  refine cf_hold (h1.more us) k (.ptr .y (h1.yo.length : Int)) rfl (by show h1.ro.length ≤ _; omega) hro hok ?_
  exact fin0 hF ⟨⟨_, yes, rfl⟩, rfl⟩

theorem pr_changed_by {K : PySem.W.Frag} {C : Exs} {vs : List V} {H : Hp} {Q : VK} {E : XK} (hsp : spOf K (fs_changed_by C) vs H Q E) : t_changed_by K C E { nx := fun _ H' => Q .non H', rt := Q } (L2.start n_changed_by vs) H := by
  refine body_of (t := fun E => t_changed_by K C E) hsp fun ⟨n, h, s, dd, room, pat⟩ rb A nx rt E hK hp hr _ hF hN => ?_
  subst hK
  try dsimp only at hp hr
  cases hr
  unfold t_changed_by
  show Ns A _ [some h.d, some dd.d, some (.int room), some (.int pat), none] []
  obtain ⟨⟨S, hn, ok⟩, ask⟩ := hp
  have S : Sims n h s := S
  have hn : n ≤ 1900 := hn
  have ok : dd.ok := ok
  have gd := S.gd (by omega)
  have gr := gd.f.ro
  have sml := gd_sml gd
  have ask : dd.ask = false := ask
  have yes : ∀ h2 G M, chg room pat h dd = .ok h2 → Rt A rt G h2.d M := fun h2 G M e => fin0 hF ⟨⟨h2, e, rfl⟩, rfl⟩
  have xr : ∀ G M, chg room pat h dd = .noRoot → Ew A E G M (.ref C.nr) := fun G M e => hF.2 _ _ _ (.inl ⟨e, rfl⟩) rfl
  have xt : ∀ G M, chg room pat h dd = .noThing → Ew A E G M (.ref C.nt) := fun G M e => hF.2 _ _ _ (.inr (.inl ⟨e, rfl⟩)) rfl
  have xf : ∀ G M, chg room pat h dd = .noField → Ew A E G M (.ref C.nf) := fun G M e => hF.2 _ _ _ (.inr (.inr ⟨e, rfl⟩)) rfl
  cases dd with
  | look k => cases ask
  | same k j => cases ask
  | minor =>
    dsimp only [Deed.d]
    walk_at "go"
    walk_at "tg"
    refine cf_x (args := fun g : Hep × Int => [g.1.d, .int g.2]) (h, pat) rfl gd (fun d hd => ?_) fun _ z => z.elim
    obtain ⟨w, dw, rfl⟩ := hd
    exact yes _ _ _ (by dsimp only [chg]; rw [← minorF_eq gd dw])
  | major =>
    dsimp only [Deed.d]
    walk_at "go"
    walk_at "tg"
    walk_at "go"
    walk_at "tg"
    refine cf_x h rfl gd (fun d hd => ?_) fun _ z => z.elim
    obtain ⟨w, dw, rfl⟩ := hd
    exact yes _ _ _ (by dsimp only [chg]; rw [← majorF_eq gd dw])
  | make k ps =>
    dsimp only [Deed.d]
    walk_at "go"
    walk_at "tg"
    walk_at "go"
    walk_at "tg"
    walk_at "go"
    refine cf_root h k rfl (fun v0 e0 => ?_) fun e0 => ?_
    rotate_left
    · exact xr _ _ (by dsimp only [chg]; rw [e0]; rfl)
    walk_at "go"
    walk_at "tg"
    refine cf_x (args := fun g : DoG × Int × List Val => [g.1.h.d, (Deed.make g.2.1 g.2.2).d, .int g.1.room, .int g.1.pat]) (⟨n, h, s, .make k ps, room, pat⟩, k, ps) rfl ⟨⟨S, hn, ok⟩, rfl⟩ (fun d hd => ?_) fun cls hx => ?_
    · obtain ⟨h2, e, rfl⟩ := hd
      exact yes _ _ _ e
    · obtain ⟨e, rfl⟩ := hx
      exact xr _ _ e
  | set k p =>
    dsimp only [Deed.d]
    walk_at "go"
    walk_at "tg"
    walk_at "go"
    walk_at "tg"
    walk_at "go"
    refine cf_root h k rfl (fun v0 e0 => ?_) fun e0 => ?_
    rotate_left
    · exact xr _ _ (by dsimp only [chg]; rw [e0])
    walk_at "go"
    walk_at "tg"
    walk_at "go"
    walk_at "tg"
    refine x_c2 ?_
    walk_at "go"
    refine cf_part h p rfl (fun v e => ?_) fun e => ?_
    rotate_left
    · exact xr _ _ (by dsimp only [chg]; rw [e0, e])
    walk_at "go"
    refine cf_hold h k v rfl (by omega) (rootAt_get e0).1 (part_okV gd.s e).1 ?_
    exact yes _ _ _ (by dsimp only [chg]; rw [e0, e]; rfl)
  | put k f p =>
    dsimp only [Deed.d]
    walk_at "go"
    walk_at "tg"
    walk_at "go"
    walk_at "tg"
    walk_at "go"
    refine cf_root h k rfl (fun x e0 => ?_) fun e0 => ?_
    rotate_left
    · exact xr _ _ (by dsimp only [chg]; rw [e0])
    walk_at "go"
    walk_at "tg"
    walk_at "go"
    walk_at "tg"
    walk_at "go"
    walk_at "tg"
    refine x_c2 ?_
    walk_at "go"
    refine x_c3 ?_
    walk_at "go"
    refine cf_part h p rfl (fun v e => ?_) fun e => ?_
    rotate_left
    · exact xr _ _ (by dsimp only [chg]; rw [e0, e])
    walk_at "go"
    have vok := (part_okV gd.s e).1
    refine cf_x (args := fun g : PutG => [g.h.d, g.v0.d, .int g.k, g.v.d]) ⟨h, x, f, v⟩ rfl ⟨sml, gd.s.bk⟩ (fun d hd => ?_) fun cls hx => ?_
    · obtain ⟨h2, ⟨w, q, t, e1, e2, e3, _, rfl⟩, rfl⟩ := hd
      have e1 : x = .ptr w q := e1
      subst e1
      have e2 : h.at? (.ptr w q) = some t := e2
      have e3 : inR f t.fs.length = true := e3
      exact yes _ _ _ (by dsimp only [chg]; rw [e0, e]; dsimp only; rw [e2]; dsimp only; rw [e3, if_pos rfl])
    · rcases hx with ⟨z, rfl⟩ | ⟨z, rfl⟩
      · rcases z with ⟨z, _⟩ | ⟨t2, z, z2, z3⟩ | ⟨t2, z, _, z3, _⟩
        · have z : h.at? x = none := z
          refine xt _ _ ?_
          dsimp only [chg]
          rw [e0, e]
          dsimp only
          rw [z]
          cases x <;> rfl
        · exact absurd z3 (by decide)
        · have z3 : h.okV v = false := z3
          rw [vok] at z3
          cases z3
      · rcases z with ⟨z, z3⟩ | ⟨t2, z, z2, _⟩ | ⟨t2, z, _, z3, z4⟩
        · exact absurd z3 (by decide)
        · have z : h.at? x = some t2 := z
          have z2 : inR f t2.fs.length = false := z2
          refine xf _ _ ?_
          dsimp only [chg]
          rw [e0, e]
          dsimp only
          cases x with
          | ptr w q => rw [z]; dsimp only; rw [z2, if_neg (by simp)]
          | non => cases z
          | num i => cases z
        · exact absurd z4 (by decide)
  | take k j f =>
    dsimp only [Deed.d]
    walk_at "go"
    walk_at "tg"
    walk_at "go"
    walk_at "tg"
    walk_at "go"
    refine cf_root h k rfl (fun x0 e0 => ?_) fun e0 => ?_
    rotate_left
    · exact xr _ _ (by dsimp only [chg]; rw [e0])
    walk_at "go"
    walk_at "tg"
    walk_at "go"
    walk_at "tg"
    walk_at "go"
    walk_at "tg"
    refine x_c2 ?_
    walk_at "go"
    refine cf_root h j rfl (fun x e => ?_) fun e => ?_
    rotate_left
    · exact xr _ _ (by dsimp only [chg]; rw [e0, e])
    walk_at "go"
    refine x_c3 ?_
    walk_at "go"
    refine cf_x (args := fun g : Hep × Val × Int => [g.1.d, g.2.1.d, .int g.2.2]) (h, x, f) rfl trivial (fun d hd => ?_) fun cls hx => ?_
    · obtain ⟨t, y, e1, e2, e3, rfl⟩ := hd
      have e1 : h.at? x = some t := e1
      have e2 : inR f t.fs.length = true := e2
      have e3 : t.fs[f.toNat]? = some y := e3
      have e4 : t.fs.getD f.toNat .non = y := by rw [List.getD_eq_getElem?_getD, e3]; rfl
      have yok : h.okV y = true := by
        obtain ⟨w, q, rfl⟩ : ∃ w q, x = .ptr w q := by
          cases x with
          | ptr w q => exact ⟨w, q, rfl⟩
          | non => cases e1
          | num i => cases e1
        obtain ⟨_, ht⟩ := at_yo e1
        cases w with
        | y => exact (gd.s.yo t (List.mem_of_getElem? ht) y (List.mem_of_getElem? e3)).1
        | _ => exact (gd.s.ol t (List.mem_of_getElem? ht) y (List.mem_of_getElem? e3)).1
      walk_at "go"
      refine cf_hold h k y rfl (by omega) (rootAt_get e0).1 yok ?_
      exact yes _ _ _ (by dsimp only [chg]; rw [e0, e]; dsimp only; rw [e1]; dsimp only; rw [e2, if_pos rfl, e4]; rfl)
    · rcases hx with ⟨z, rfl⟩ | ⟨t2, z, z2, rfl⟩
      · have z : h.at? x = none := z
        exact xt _ _ (by dsimp only [chg]; rw [e0, e]; dsimp only; rw [z])
      · have z : h.at? x = some t2 := z
        have z2 : inR f t2.fs.length = false := z2
        exact xf _ _ (by dsimp only [chg]; rw [e0, e]; dsimp only; rw [z]; dsimp only; rw [z2, if_neg (by simp)])
theorem pr_asked {K : PySem.W.Frag} {C : Exs} {vs : List V} {H : Hp} {Q : VK} {E : XK} (hsp : spOf K (fs_asked C) vs H Q E) : t_asked K C E { nx := fun _ H' => Q .non H', rt := Q } (L2.start n_asked vs) H := by
  refine body_of (t := fun E => t_asked K C E) hsp fun ⟨n, h, s, dd, room, pat⟩ rb A nx rt E hK hp hr _ hF hN => ?_
  subst hK
  try dsimp only at hp hr
  cases hr
  unfold t_asked
  show Ns A _ [some h.d, some dd.d, none, none] []
  obtain ⟨⟨S, hn, ok⟩, ask⟩ := hp
  have S : Sims n h s := S
  have hn : n ≤ 1900 := hn
  have gd := S.gd (by omega)
  have ask : dd.ask = true := ask
  have yes : ∀ d G M, asks h dd = some d → Rt A rt G d M := fun d G M e => fin0 hF ⟨e, rfl⟩
  have xr : ∀ G M, asks h dd = none → Ew A E G M (.ref C.nr) := fun G M e => hF.2 _ _ _ ⟨e, rfl⟩ rfl
  cases dd with
  | minor => cases ask
  | major => cases ask
  | make k ps => cases ask
  | set k p => cases ask
  | put k f p => cases ask
  | take k j f => cases ask
  | look k =>
    dsimp only [Deed.d]
    walk_at "go"
    refine cf_root h k rfl (fun x e0 => ?_) fun e0 => ?_
    rotate_left
    · exact xr _ _ (by dsimp only [asks]; rw [e0]; rfl)
    walk_at "go"
    walk_at "tg"
    walk_at "go"
    refine cf_v (args := fun x => [x]) x.d rfl (val_plain x) ?_
    rw [val_isT]
    walk_at "go"
    cases ex : x.isP with
    | false =>
      refine split_lit_f ?_
      walk_at "go"
      refine yes _ _ _ ?_
      dsimp only [asks]
      rw [e0]
      cases x with
      | ptr w q => cases ex
      | non => rfl
      | num i => rfl
    | true =>
      refine split_lit_t ?_
      have xok := gd.s.ro x (List.mem_of_getElem? (rootAt_get e0).2)
      obtain ⟨o, p, t, rfl, _, ht, hl, _⟩ := okP_get (okP_of xok.1 xok.2 ex)
      have hat := at_ptr hl ht
      walk_at "go"
      refine w_tup ?_
      walk_at "go"
      refine cf_x (args := fun g : Hep × Val => [g.1.d, g.2.d]) (h, .ptr o (p : Int)) rfl trivial (fun d hd => ?_) fun cls hx => ?_
      · obtain ⟨t2, e1, rfl⟩ := hd
        have e1 : h.at? (.ptr o (p : Int)) = some t2 := e1
        walk_at "go"
        refine ⟨by simp, yes _ _ _ ?_⟩
        dsimp only [asks]
        rw [e0]
        dsimp only [Option.map_some]
        rw [e1]
      · have z : h.at? (.ptr o (p : Int)) = none := hx.1
        rw [hat] at z
        cases z
  | same k j =>
    dsimp only [Deed.d]
    walk_at "go"
    refine cf_root h k rfl (fun x e0 => ?_) fun e0 => ?_
    rotate_left
    · exact xr _ _ (by dsimp only [asks]; rw [e0])
    walk_at "go"
    walk_at "tg"
    refine x_c2 ?_
    walk_at "go"
    refine cf_root h j rfl (fun y e1 => ?_) fun e1 => ?_
    rotate_left
    · exact xr _ _ (by dsimp only [asks]; rw [e0, e1])
    walk_at "go"
    refine cf_v (args := fun x => [x]) x.d rfl (val_plain x) ?_
    rw [val_isT]
    walk_at "go"
    have fin : ∀ b G M, (x.isP && decide (x = y)) = b → Rt A rt G (.bl b) M := fun b G M e => yes _ _ _ (by dsimp only [asks]; rw [e0, e1]; dsimp only; rw [e])
    cases ex : x.isP with
    | false =>
      rw [ex] at fin
      refine split_lit_f ?_
      exact fin _ _ _ rfl
    | true =>
      rw [ex] at fin
      refine split_lit_t ?_
      walk_at "go"
      refine e_vv ?_
      exact fin _ _ _ (by simp)

theorem hpRun_snoc {room pat : Int} {d : Deed} : ∀ {ds : List Deed} {h : Hep}, hpRun room pat h (ds ++ [d]) = (hpStep room pat (hpRun room pat h ds) d).1
  | [], _ => rfl
  | e :: ds, h => hpRun_snoc (ds := ds)
theorem plRun_snoc {d : Deed} : ∀ {ds : List Deed} {s : Pl}, plRun s (ds ++ [d]) = (plStep (plRun s ds) d).1
  | [], _ => rfl
  | e :: ds, s => plRun_snoc (ds := ds)
theorem plAns_snoc {d : Deed} : ∀ {ds : List Deed} {s : Pl}, plAns s (ds ++ [d]) = plAns s ds ++ [(plStep (plRun s ds) d).2]
  | [], _ => rfl
  | e :: ds, s => congrArg _ (plAns_snoc (ds := ds))
theorem plAns_len : ∀ {ds : List Deed} {s : Pl}, (plAns s ds).length = ds.length
  | [], _ => rfl
  | e :: ds, s => congrArg (· + 1) (plAns_len (ds := ds))
theorem sims0 {many : Nat} (h : many ≤ 200) : Sims 0 (hep0 many) (pl0 many) := ⟨_, _, Sim.start h⟩
theorem run_sims {room pat : Int} {many : Nat} {dds : List Deed} (hm : many ≤ 200) (hl : dds.length ≤ 1800) (ok : ∀ d ∈ dds, d.ok) : ∀ i, i ≤ dds.length → Sims i (hpRun room pat (hep0 many) (dds.take i)) (plRun (pl0 many) (dds.take i)) := fun i => by
  induction i with
  | zero => exact fun _ => sims0 hm
  | succ i ih =>
    intro hi
    have hd := List.getElem?_eq_getElem (show i < dds.length by omega)
    rw [take_snoc hd, hpRun_snoc, plRun_snoc]
    exact (sim_step (ih (by omega)) (by omega) (ok _ (List.mem_of_getElem? hd))).2
theorem pr_play {K : PySem.W.Frag} {mg : Str → Option Value} {C : Exs} {vs : List V} {H : Hp} {Q : VK} {E : XK} (T : Xt K mg C) (hsp : spOf K (fs_play C) vs H Q E) : t_play K C E { nx := fun _ H' => Q .non H', rt := Q } (L2.start n_play vs) H := by
  refine body_of (t := fun E => t_play K C E) hsp fun ⟨many, room, pat, a, dds⟩ rb A nx rt E hK hp hr _ hF hN => ?_
  subst hK
  try dsimp only at hp hr
  obtain ⟨b, rfl, hb, hw⟩ := rs1 hr
  unfold t_play
  show Ns A _ [some (.int (many : Int)), some (.int room), some (.int pat), some (.obj a), none, none, none, none] [(a, b)]
  obtain ⟨hm, hl, ok⟩ := hp
  have hm : many ≤ 150 := hm
  have hl : dds.length ≤ 1000 := hl
  have ok : ∀ d ∈ dds, d.ok := ok
  have hb : b.rb = .l (dds.map Deed.d) := hb
  walk_at "go"
  refine cf_v (args := fun n : Nat => [.int (n : Int)]) many rfl (by show many ≤ _; omega) ?_
  walk_at "go"
  refine w_lst ?_
  walk_at "go"
  refine ⟨by simp, fun p => ?_⟩
  walk_at "go"
  refine ns_forL (ds := dds.map Deed.d) (fun q i G M => q = a ∧ ∃ x6 x7, G = [some (.int (many : Int)), some (.int room), some (.int pat), some (.obj a), some (hpRun room pat (hep0 many) (dds.take i)).d, some (.obj p), x6, x7] ∧ M = [(p, .lst (plAns (pl0 many) (dds.take i))), (a, b)]) ?_ ?_ ?_ ?_
  · walk_at "go"
    exact ⟨rfl, none, none, rfl, rfl⟩
  · rintro q i _ _ ⟨rfl, x6, x7, rfl, rfl⟩
    exact ⟨b, mem1, hb⟩
  · rintro q i d _ _ hd ⟨rfl, x6, x7, rfl, rfl⟩
    obtain ⟨dd, hdd, rfl⟩ := map_get hd
    have hi := (List.getElem?_eq_some_iff.mp hdd).1
    have S := run_sims (room := room) (pat := pat) (many := many) (dds := dds) (by omega) (by omega) ok i (by omega)
    have ddok := ok dd (List.mem_of_getElem? hdd)
    have st := (sim_step (room := room) (pat := pat) S (by omega) ddok).1
    have e1 := hpRun_snoc (room := room) (pat := pat) (d := dd) (ds := dds.take i) (h := hep0 many)
    have e2 := plAns_snoc (d := dd) (ds := dds.take i) (s := pl0 many)
    rw [← take_snoc hdd] at e1 e2
    rw [← st] at e2
    have la : (plAns (pl0 many) (dds.take i)).length < 10000000 := by rw [plAns_len]; simp; omega
    have fin : ∀ (h2 : Hep) (u : D), hpStep room pat (hpRun room pat (hep0 many) (dds.take i)) dd = (h2, u) → We A (tBM A.K "list" rAppend (tVar 5) (tCons (tVar 6) tNil)) [some (.int (many : Int)), some (.int room), some (.int pat), some (.obj q), some h2.d, some (.obj p), some u, some dd.d] [(p, .lst (plAns (pl0 many) (dds.take i))), (q, b)] fun d M1 => Ns A (NsI A (fun G M => q = q ∧ ∃ x6 x7, G = [some (.int (many : Int)), some (.int room), some (.int pat), some (.obj q), some (hpRun room pat (hep0 many) (dds.take (i + 1))).d, some (.obj p), x6, x7] ∧ M = [(p, .lst (plAns (pl0 many) (dds.take (i + 1)))), (q, b)])) [some (.int (many : Int)), some (.int room), some (.int pat), some (.obj q), some h2.d, some (.obj p), some u, some dd.d] M1 := fun h2 u e => by
      refine w_append ?_
      walk_at "go"
      refine ⟨p, _, rfl, mem0, ?_⟩
      walk_at "go"
      refine ⟨_, _, .here, la, ns_i ⟨rfl, some u, some dd.d, ?_, ?_⟩⟩
      · rw [e1, e]
      · rw [e2, e]
    generalize hpRun room pat (hep0 many) (dds.take i) = h at S fin
    generalize plRun (pl0 many) (dds.take i) = s at S
    walk_at "go"
    refine ns_try fun W hW => ?_
    refine ns_ifB (fun b => b = dd.ask) ?_ (fun ha => ?_) (fun ha => ?_)
    · cases dd <;> dsimp only [Deed.d]
      · walk_at "go"
        walk_at "tg"
        walk_at "tg"
        exact ⟨rfl, .refl _⟩
      · walk_at "go"
        walk_at "tg"
        walk_at "tg"
        exact ⟨rfl, .refl _⟩
      · walk_at "go"
        walk_at "tg"
        walk_at "tg"
        exact ⟨rfl, .refl _⟩
      · walk_at "go"
        walk_at "tg"
        walk_at "tg"
        exact ⟨rfl, .refl _⟩
      · walk_at "go"
        walk_at "tg"
        exact ⟨rfl, .refl _⟩
      · walk_at "go"
        walk_at "tg"
        walk_at "tg"
        exact ⟨rfl, .refl _⟩
      · walk_at "go"
        walk_at "tg"
        walk_at "tg"
        exact ⟨rfl, .refl _⟩
      · walk_at "go"
        walk_at "tg"
        walk_at "tg"
        exact ⟨rfl, .refl _⟩
    · have ha : dd.ask = true := ha.symm
      have hs : hpStep room pat h dd = (h, (asks h dd).getD (.str "no root")) := by unfold hpStep; rw [ha, if_pos rfl]
      walk_at "go"
      refine cf_x (args := fun g : DoG => [g.h.d, g.dd.d]) ⟨i, h, s, dd, room, pat⟩ rfl ⟨⟨S, by show i ≤ 1900; omega, ddok⟩, ha⟩ (fun d hd => ?_) fun cls hx => ?_
      · have hd : asks h dd = some d := hd
        walk_at "go"
        refine fin h d ?_
        rw [hs, hd]
        rfl
      · obtain ⟨hx, rfl⟩ := hx
        have hx : asks h dd = none := hx
        subst hW
        refine wm_hit T.m_rr fun _ => ?_
        walk_at "go"
        refine fin h _ ?_
        rw [hs, hx]
        rfl
    · have ha : dd.ask = false := ha.symm
      have hs : hpStep room pat h dd = match chg room pat h dd with | .ok h2 => (h2, .str "done") | .noRoot => (h, .str "no root") | .noThing => (h, .str "no thing") | .noField => (h, .str "no field") := by unfold hpStep; rw [ha, if_neg (by simp)] <;> (cases chg room pat h dd <;> rfl)
      walk_at "go"
      refine cf_x (args := fun g : DoG => [g.h.d, g.dd.d, .int g.room, .int g.pat]) ⟨i, h, s, dd, room, pat⟩ rfl ⟨⟨S, by show i ≤ 1900; omega, ddok⟩, ha⟩ (fun d hd => ?_) fun cls hx => ?_
      · obtain ⟨h2, hd, rfl⟩ := hd
        have hd : chg room pat h dd = .ok h2 := hd
        walk_at "go"
        refine fin h2 _ ?_
        rw [hs, hd]
      · subst hW
        rcases hx with ⟨hx, rfl⟩ | ⟨hx, rfl⟩ | ⟨hx, rfl⟩
        · have hx : chg room pat h dd = .noRoot := hx
          refine wm_hit T.m_rr fun _ => ?_
          walk_at "go"
          refine fin h _ ?_
          rw [hs, hx]
        · have hx : chg room pat h dd = .noThing := hx
          refine wm_miss T.m_tr (wm_hit T.m_tt fun _ => ?_)
          walk_at "go"
          refine fin h _ ?_
          rw [hs, hx]
        · have hx : chg room pat h dd = .noField := hx
          refine wm_miss T.m_fr (wm_miss T.m_ft (wm_hit T.m_ff fun _ => ?_))
          walk_at "go"
          refine fin h _ ?_
          rw [hs, hx]
  rintro q _ _ ⟨rfl, x6, x7, rfl, rfl⟩
  rw [List.length_map, List.take_length]
  walk_at "go"
  refine w_tup ?_
  walk_at "go"
  refine ⟨by simp, ?_⟩
  exact hF.1 _ _ _ [(p, .lst (plAns (pl0 many) dds))] ⟨p, rfl, rfl⟩ (fun q hq => by cases List.mem_singleton.mp hq; rfl) ⟨_, .cons .here .nil⟩

theorem pr_law_part_by {K : PySem.W.Frag} {C : Exs} {vs : List V} {H : Hp} {Q : VK} {E : XK} (hsp : spOf K (fs_law_part_by C) vs H Q E) : t_law_part_by K C E { nx := fun _ H' => Q .non H', rt := Q } (L2.start n_law_part_by vs) H := by
  refine body_of (t := fun E => t_law_part_by K C E) hsp fun ⟨code, far, k, many⟩ rb A nx rt E hK hp hr _ hF hN => ?_
  subst hK
  try dsimp only at hp hr
  cases hr
  unfold t_law_part_by
  show Ns A _ [some (.int code), some (.int far), some (.int k), some (.int (many : Int))] []
  have h0 : 0 ≤ code := hp
  walk_at "go"
  refine split_dec (fun hc => ?_) (fun hc => ?_)
  · walk_at "go"
    refine w_lst ?_
    walk_at "go"
    refine ⟨by simp, fun p => ?_⟩
    walk_at "go"
    refine x_two mem0 h0 hc (fun _ => ?_) (fun _ => ?_)
    · exact fin0 hF ⟨⟨.non, rfl, rfl⟩, rfl⟩
    · exact fin0 hF ⟨⟨.num far, rfl, rfl⟩, rfl⟩
  refine ns_next (ns_seq (ns_ifB (fun b => b = true → 0 < many) ?_ (fun hm => ?_) (fun _ => ?_)))
  · walk_at "gi"
    refine split_dec (fun _ => ?_) (fun _ => ?_)
    · walk_at "gi"
      exact ⟨fun z => by have := of_decide_eq_true z; omega, .refl _⟩
    · exact ⟨fun z => (nomatch z), .refl _⟩
  · have hm := hm rfl
    walk_at "g1"
    refine w_tup ?_
    walk_at "g1"
    exact ⟨by simp, fin0 hF ⟨⟨.ptr .r _, rfl, rfl⟩, rfl⟩⟩
  walk_at "g1"
  refine w_tup ?_
  walk_at "g1"
  refine w_lst ?_
  walk_at "g1"
  refine ⟨by simp, fun p => ?_⟩
  walk_at "g1"
  refine x_four mem0 (by omega) (by simp; omega) fun x hx => ?_
  obtain ⟨i, rfl⟩ : ∃ i : Int, x = .int i := by
    simp only [List.mem_cons, List.not_mem_nil, or_false] at hx
    rcases hx with rfl | rfl | rfl | rfl <;> exact ⟨_, rfl⟩
  walk_at "g1"
  exact ⟨by simp, fin0 hF ⟨⟨.ptr .r i, rfl, rfl⟩, rfl⟩⟩
theorem pr_law_root_by {K : PySem.W.Frag} {C : Exs} {vs : List V} {H : Hp} {Q : VK} {E : XK} (hsp : spOf K (fs_law_root_by C) vs H Q E) : t_law_root_by K C E { nx := fun _ H' => Q .non H', rt := Q } (L2.start n_law_root_by vs) H := by
  refine body_of (t := fun E => t_law_root_by K C E) hsp fun ⟨code, many⟩ rb A nx rt E hK hp hr _ hF hN => ?_
  subst hK
  try dsimp only at hp hr
  cases hr
  unfold t_law_root_by
  show Ns A _ [some (.int code), some (.int (many : Int))] []
  obtain ⟨h0, h1, h2⟩ := hp
  have h0 : 0 ≤ code := h0
  have h1 : code < 4 * (many : Int) + 4 := h1
  have h2 : many ≤ 1000 := h2
  walk_at "g1"
  refine split_dec (fun hc => ?_) (fun hc => ?_)
  · walk_at "g1"
    exact fin0 hF ⟨⟨_, rfl⟩, rfl⟩
  walk_at "g1"
  refine w_lst ?_
  walk_at "g1"
  refine p_pow ⟨by decide, by decide, by decide⟩ ?_
  walk_at "g1"
  refine ⟨by simp, fun p => ?_⟩
  walk_at "g1"
  refine x_four mem0 (by omega) (by simp; omega) fun x hx => ?_
  obtain ⟨i, rfl⟩ : ∃ i : Int, x = .int i := by
    simp only [List.mem_cons, List.not_mem_nil, or_false] at hx
    rcases hx with rfl | rfl | rfl | rfl <;> exact ⟨_, rfl⟩
  exact fin0 hF ⟨⟨i, rfl⟩, rfl⟩
theorem pr_law_room_by {K : PySem.W.Frag} {C : Exs} {vs : List V} {H : Hp} {Q : VK} {E : XK} (hsp : spOf K (fs_law_room_by C) vs H Q E) : t_law_room_by K C E { nx := fun _ H' => Q .non H', rt := Q } (L2.start n_law_room_by vs) H := by
  refine body_of (t := fun E => t_law_room_by K C E) hsp fun c rb A nx rt E hK hp hr _ hF hN => ?_
  subst hK
  try dsimp only at hp hr
  cases hr
  unfold t_law_room_by
  show Ns A _ [some (.int c)] []
  walk_at "g1"
  refine split_dec (fun _ => ?_) (fun _ => ?_)
  · walk_at "g1"
    exact fin0 hF ⟨⟨_, rfl⟩, rfl⟩
  walk_at "g1"
  refine split_dec (fun _ => ?_) (fun _ => ?_)
  · walk_at "g1"
    exact fin0 hF ⟨⟨_, rfl⟩, rfl⟩
  walk_at "g1"
  refine split_dec (fun _ => ?_) (fun _ => ?_)
  · walk_at "g1"
    exact fin0 hF ⟨⟨_, rfl⟩, rfl⟩
  walk_at "g1"
  exact fin0 hF ⟨⟨_, rfl⟩, rfl⟩
theorem ns_ifV {A : Am} {G : Gm} {M : Bxs} {te : TE} {t : TT} {nx : L2.St → Hp → Prop} {rt : VK} {bk ct : L2.St → Hp → Prop} {i : Nat} (h : Wt A t G M fun b M1 => (b = true → We A te G M1 fun d M2 => M.Sublist M2 ∧ ∃ p : Val, d = p.d ∧ p.pt = true) ∧ (b = false → M.Sublist M1)) (u : Val) (hu : u.pt = true) (hG : G[i]? = some (some u.d)) (k : ∀ p : Val, p.pt = true → Ns A nx (G.set i (some p.d)) M) :
    Ns A (tIfS t (tAsg te (gName i)) tNext ⟨nx, rt, bk, ct⟩) G M :=
  ns_ifA (fun d => ∃ p : Val, d = p.d ∧ p.pt = true) (h.imp fun b M1 ⟨h1, h2⟩ => ⟨h1, fun e => ⟨h2 e, u.d, hG, u, rfl, hu⟩⟩) fun d ⟨p, e, hp⟩ => by subst e; exact k p hp
theorem pr_law_make_parts {K : PySem.W.Frag} {C : Exs} {vs : List V} {H : Hp} {Q : VK} {E : XK} (hsp : spOf K (fs_law_make_parts C) vs H Q E) : t_law_make_parts K C E { nx := fun _ H' => Q .non H', rt := Q } (L2.start n_law_make_parts vs) H := by
  refine body_of (t := fun E => t_law_make_parts K C E) hsp fun ⟨rest, far, k, many, size⟩ rb A nx rt E hK hp hr _ hF hN => ?_
  subst hK
  try dsimp only at hp hr
  cases hr
  unfold t_law_make_parts
  show Ns A _ [some (.int rest), some (.int far), some (.int k), some (.int (many : Int)), some (.int (size : Int)), none, none, none, none] []
  obtain ⟨r0, r1, hs, hm⟩ := hp
  have r0 : 0 ≤ rest := r0
  have r1 : rest < 2147483647 := r1
  have hs : size ≤ 100 := hs
  have hm : many ≤ 1000 := hm
  walk_at "gi"
  refine w_lst ?_
  walk_at "gi"
  refine ⟨by simp, fun p => ?_⟩
  walk_at "gi"
  refine ns_forR1 (n := (size : Int)) (fun i G M => ∃ (ps : List Val) (x6 x7 x8 : Option D), G = [some (.int rest), some (.int far), some (.int k), some (.int (many : Int)), some (.int (size : Int)), some (.obj p), x6, x7, x8] ∧ M = [(p, .lst (ps.map Val.d))] ∧ ps.length = i ∧ ∀ q ∈ ps, q.pt = true) ?_ ?_ ?_
  · walk_at "gi"
    exact ⟨rfl, ⟨by omega, by omega⟩, [], none, none, none, rfl, rfl, rfl, fun _ z => (nomatch z)⟩
  · rintro i _ _ hi ⟨ps, x6, x7, x8, rfl, rfl, hpl, hpp⟩
    walk_at "g1i"
    have m0 := Int.emod_nonneg ((rest + 104729 * (i : Int)) * 48271) (show (2147483629 : Int) ≠ 0 by decide)
    have m1 := Int.emod_lt_of_pos ((rest + 104729 * (i : Int)) * 48271) (show (0 : Int) < 2147483629 by decide)
    generalize (rest + 104729 * (i : Int)) * 48271 % 2147483629 = m2 at m0 m1
    walk_at "g1i"
    have q0 := Int.emod_nonneg (m2 * m2) (show (2147483629 : Int) ≠ 0 by decide)
    generalize m2 * m2 % 2147483629 = m3 at q0
    walk_at "g1i"
    refine cf_x (args := fun g : PbyG => [.int g.code, .int g.far, .int g.k, .int (g.many : Int)]) ⟨m3 % 11, far + i, k, many⟩ rfl (by show 0 ≤ m3 % 11; omega) (fun d hd => ?_) fun _ z => z.elim
    obtain ⟨u, rfl, hu⟩ := hd
    walk_at "cl"
    refine ns_seq (ns_ifV ?_ u hu rfl fun u2 hu2 => ?_)
    · walk_at "g1i"
      cases e : u.isP with
      | false => exact split_lit_f ⟨fun z => (nomatch z), fun _ => .refl _⟩
      | true =>
        refine split_lit_t ?_
        walk_at "g1i"
        refine split_dec (fun h1 => ?_) (fun _ => ⟨fun z => (nomatch z), fun _ => .refl _⟩)
        walk_at "g1i"
        refine split_dec (fun _ => ?_) (fun _ => .refl _)
        refine w_tup ?_
        walk_at "g1i"
        exact ⟨by simp, .refl _, .ptr .r _, rfl, rfl⟩
    walk_at "cl"
    refine ns_seq (ns_ifV ?_ u2 hu2 rfl fun u3 hu3 => ?_)
    · walk_at "g1i"
      refine split_dec (fun _ => ?_) (fun _ => ⟨fun z => (nomatch z), fun _ => .refl _⟩)
      walk_at "g1i"
      refine split_dec (fun _ => ?_) (fun _ => .refl _)
      walk_at "g1i"
      refine cf_x (args := fun g : PbyG => [.int g.code, .int g.far, .int g.k, .int (g.many : Int)]) ⟨11, far, k, many⟩ rfl (by show (0 : Int) ≤ 11; decide) (fun d hd => ?_) fun _ z => z.elim
      exact ⟨.refl _, hd⟩
    walk_at "cl"
    walk_at "gi"
    refine w_append ?_
    walk_at "gi"
    refine ⟨p, _, rfl, mem0, ?_⟩
    walk_at "gi"
    refine ⟨_, _, .here, by rw [List.length_map]; omega, ns_i ⟨ps ++ [u3], _, _, _, rfl, by simp, by simp [hpl], fun q hq => ?_⟩⟩
    rcases List.mem_append.mp hq with z | z
    · exact hpp q z
    · cases List.mem_singleton.mp z
      exact hu3
  rintro _ _ ⟨ps, x6, x7, x8, rfl, rfl, hpl, hpp⟩
  walk_at "gi"
  refine c_tupL (b := .lst _) mem0 rfl ?_
  exact fin0 hF ⟨⟨ps, rfl, by omega, hpp⟩, rfl⟩

theorem pr_law_deed_by {K : PySem.W.Frag} {C : Exs} {vs : List V} {H : Hp} {Q : VK} {E : XK} (hsp : spOf K (fs_law_deed_by C) vs H Q E) : t_law_deed_by K C E { nx := fun _ H' => Q .non H', rt := Q } (L2.start n_law_deed_by vs) H := by
  refine body_of (t := fun E => t_law_deed_by K C E) hsp fun ⟨num, far, many⟩ rb A nx rt E hK hp hr _ hF hN => ?_
  subst hK
  try dsimp only at hp hr
  cases hr
  unfold t_law_deed_by
  show Ns A _ [some (.int num), some (.int far), some (.int (many : Int)), none, none, none, none, none, none, none, none, none, none] []
  obtain ⟨n0, n1, hm⟩ := hp
  have n0 : 0 ≤ num := n0
  have n1 : num < 2147483647 := n1
  have hm : many ≤ 1000 := hm
  walk_at "g1i"
  have r0 := Int.emod_nonneg (num * 69621) (show (2147483647 : Int) ≠ 0 by decide)
  have r1 := Int.emod_lt_of_pos (num * 69621) (show (0 : Int) < 2147483647 by decide)
  generalize num * 69621 % 2147483647 = rest at r0 r1
  generalize hkind : num % 18 = kind
  have k0 : 0 ≤ kind ∧ kind < 18 := by omega
  generalize hsh : 4 * (many : Int) + 4 = sh
  have s0 : 0 < sh ∧ sh < 10000 := by omega
  walk_at "g1i"
  have a0 := Int.emod_nonneg (num / 18) (show sh ≠ 0 by omega)
  have a1 := Int.emod_lt_of_pos (num / 18) s0.1
  refine cf_x (args := fun g : Int × Nat => [.int g.1, .int (g.2 : Int)]) (num / 18 % sh, many) rfl ⟨a0, by show num / 18 % sh < _; omega, hm⟩ (fun d hd => ?_) fun _ z => z.elim
  obtain ⟨k, rfl⟩ := hd
  walk_at "g1i"
  have b0 : 0 ≤ num / 18 / sh := Int.ediv_nonneg (by omega) (by omega)
  generalize num / 18 / sh = num2 at b0
  have c0 := Int.emod_nonneg num2 (show sh ≠ 0 by omega)
  have c1 := Int.emod_lt_of_pos num2 s0.1
  refine cf_x (args := fun g : Int × Nat => [.int g.1, .int (g.2 : Int)]) (num2 % sh, many) rfl ⟨c0, by show num2 % sh < _; omega, hm⟩ (fun d hd => ?_) fun _ z => z.elim
  obtain ⟨j, rfl⟩ := hd
  have e0 : 0 ≤ num2 / sh := Int.ediv_nonneg b0 (by omega)
  walk_at "g1i"
  refine w_lst ?_
  walk_at "g1i"
  refine p_abs ?_
  walk_at "g1i"
  refine ⟨by simp, fun pl => ?_⟩
  walk_at "g1i"
  refine x_four mem0 (by omega) (by simp; omega) fun x hx => ?_
  obtain ⟨f, rfl⟩ : ∃ i : Int, x = .int i := by
    simp only [List.mem_cons, List.not_mem_nil, or_false] at hx
    rcases hx with rfl | rfl | rfl | rfl | rfl | rfl | rfl | rfl | rfl | rfl | rfl | rfl <;> exact ⟨_, rfl⟩
  clear hx
  walk_at "g1i"
  refine cf_x (args := fun g : PbyG => [.int g.code, .int g.far, .int g.k, .int (g.many : Int)]) ⟨rest % 12, far, k, many⟩ rfl (by show 0 ≤ rest % 12; omega) (fun d hd => ?_) fun _ z => z.elim
  obtain ⟨u, rfl, hu⟩ := hd
  walk_at "cl"
  refine ns_seq (ns_ifV ?_ u hu rfl fun u2 hu2 => ?_)
  · walk_at "g1i"
    cases e : u.isP with
    | false => exact split_lit_f ⟨fun z => (nomatch z), fun _ => .refl _⟩
    | true =>
      refine split_lit_t ?_
      walk_at "g1i"
      refine split_dec (fun h1 => ?_) (fun _ => ⟨fun z => (nomatch z), fun _ => .refl _⟩)
      walk_at "g1i"
      refine split_dec (fun _ => ?_) (fun _ => ⟨fun z => (nomatch z), fun _ => .refl _⟩)
      walk_at "g1i"
      refine split_dec (fun _ => ?_) (fun _ => .refl _)
      refine w_tup ?_
      walk_at "g1i"
      exact ⟨by simp, .refl _, .ptr .r _, rfl, rfl⟩
  walk_at "cl"
  refine ns_seq (ns_if ?_)
  walk_at "gi"
  refine split_dec (fun _ => ?_) (fun _ => ?_)
  · walk_at "g1i"
    refine ns_ifA (fun d => ∃ m : Nat, d = .int (m : Int) ∧ m ≤ 100) ?_ ?_
    · walk_at "g1i"
      refine split_dec (fun _ => ?_) (fun _ => ?_)
      · walk_at "g1i"
        exact ⟨.refl _, (rest / 280 % 101).toNat, by rw [show (((rest / 280 % 101).toNat : Nat) : Int) = rest / 280 % 101 by omega], by omega⟩
      · exact ⟨.refl _, _, rfl, (rest % 7).toNat, by rw [show (((rest % 7).toNat : Nat) : Int) = rest % 7 by omega], by omega⟩
    rintro _ ⟨m, rfl, hm2⟩
    walk_at "cl"
    walk_at "gi"
    refine w_tup ?_
    walk_at "gi"
    refine cf_x (args := fun g : MpsG => [.int g.rest, .int g.far, .int g.k, .int (g.many : Int), .int (g.size : Int)]) ⟨rest, far, k, many, m⟩ rfl ⟨r0, r1, hm2, hm⟩ (fun d hd => ?_) fun _ z => z.elim
    obtain ⟨ps, rfl, hl, hp⟩ := hd
    walk_at "gi"
    exact ⟨by simp, fin0 hF ⟨⟨.make k ps, rfl, hl, hp⟩, rfl⟩⟩
  refine ns_next (ns_seq (ns_if ?_))
  walk_at "gi"
  refine split_dec (fun _ => ?_) (fun _ => ?_)
  · walk_at "gi"
    refine w_tup ?_
    walk_at "gi"
    exact ⟨by simp, fin0 hF ⟨⟨.put k f u2, rfl, hu2⟩, rfl⟩⟩
  refine ns_next (ns_seq (ns_asg (w_lst ?_)))
  refine wa_cons (w_tup ?_)
  walk_at "gi"
  refine ⟨by simp, ?_⟩
  refine wa_cons (w_tup ?_)
  walk_at "gi"
  refine ⟨by simp, ?_⟩
  refine wa_cons (w_tup ?_)
  walk_at "gi"
  refine ⟨by simp, ?_⟩
  refine wa_cons (w_tup ?_)
  walk_at "gi"
  refine ⟨by simp, ?_⟩
  refine wa_cons (w_tup ?_)
  walk_at "gi"
  refine ⟨by simp, ?_⟩
  walk_at "gi"
  refine ⟨by simp, fun l1 => ?_⟩
  walk_at "gi"
  refine w_lst ?_
  refine wa_cons (w_tup ?_)
  walk_at "gi"
  refine ⟨by simp, ?_⟩
  refine wa_cons (w_tup ?_)
  walk_at "gi"
  refine ⟨by simp, ?_⟩
  refine wa_cons (w_tup ?_)
  walk_at "gi"
  refine ⟨by simp, ?_⟩
  walk_at "gi"
  refine ⟨by simp, fun l2 => ?_⟩
  refine p_addL mem1 mem0 (by simp) fun l3 => ?_
  walk_at "gi"
  refine x_four mem0 (by omega) (by simp; omega) fun x hx => ?_
  refine fin0 hF ⟨?_, rfl⟩
  simp only [List.cons_append, List.nil_append, List.mem_cons, List.not_mem_nil, or_false] at hx
  rcases hx with rfl | rfl | rfl | rfl | rfl | rfl | rfl | rfl
  · exact ⟨.set k u2, rfl, hu2⟩
  · exact ⟨.take k j f, rfl, trivial⟩
  · exact ⟨.look k, rfl, trivial⟩
  · exact ⟨.look j, rfl, trivial⟩
  · exact ⟨.same k j, rfl, trivial⟩
  · exact ⟨.minor, rfl, trivial⟩
  · exact ⟨.minor, rfl, trivial⟩
  · exact ⟨.major, rfl, trivial⟩

theorem lc_flag {A : Am} {G : Gm} {M : Bxs} {R : D → Bxs → Prop} {tl : TE} {tt : TT} {j : Nat} {ds : List D} (c : Bool) (hl : ds.length ≤ 9000000)
    (h : We A tl G M fun x M1 => x = .tup ds ∧ (∀ (Hb : Hp) (_ : TEx A.Hb Hb) (p : Addr) (acc : List D) (d : D), Wt (A.re Hb) tt (G.set j (some d)) ((p, .lst acc) :: M1) fun b M2 => b = c ∧ M2 = (p, Box.lst acc) :: M1) ∧ ∀ p, R (.obj p) ((p, .lst (if c = true then ds else [])) :: M1)) (hj : j < G.length := by simp) :
    We A (tLc (iSeq A.K tl) (gName j) tt (tVar j) [j]) G M R := by
  refine w_lcT (ds := ds) (fun i acc => acc = if c = true then ds.take i else []) (h.imp fun x M1 ⟨e, hs, hd⟩ => ⟨e, by cases c <;> simp, fun Hb ht p i acc d hdi hI => ?_, fun p acc hI => ?_⟩)
  · subst hI
    have hi := (List.getElem?_eq_some_iff.mp hdi).1
    refine (hs Hb ht p _ d).imp fun b M2 ⟨e1, e2⟩ => ?_
    subst e1 e2
    refine ⟨fun e => w_var (List.getElem?_set_self hj) ⟨?_, ?_, .refl _⟩, fun e => ⟨?_, .refl _⟩⟩
    · rw [if_pos e]; simp; omega
    · rw [if_pos e, if_pos e, take_snoc hdi]
    · rw [if_neg (by rw [e]; simp), if_neg (by rw [e]; simp)]
  · subst hI
    rw [List.take_length]
    exact hd p
theorem rootsOf_snoc {vs : List Val} {i : Nat} {v : Val} (h : vs[i]? = some v) : rootsOf (vs.take (i + 1)) = rootsOf (vs.take i) ++ if v.isP = true then [plc v] else [] := by
  unfold rootsOf
  rw [take_snoc h, List.filter_append, List.map_append]
  congr 1
  cases e : v.isP <;> simp [List.filter_cons, e]
theorem rootsOf_len {vs : List Val} : (rootsOf vs).length ≤ vs.length := by
  unfold rootsOf
  rw [List.length_map]
  exact List.length_filter_le _ _
/-- [part[1] for part in l if isinstance(part, tuple)] -/
theorem lc_roots {A : Am} {G : Gm} {M : Bxs} {R : D → Bxs → Prop} {tl : TE} {j : Nat} {vs : List Val} (hl : vs.length ≤ 9000000)
    (h : We A tl G M fun x M1 => ∃ a b, x = .obj a ∧ (a, b) ∈ M1 ∧ Box.rb b = .l (vs.map Val.d) ∧ ∀ p, R (.obj p) ((p, .lst ((rootsOf vs).map D.int)) :: M1)) (hj : j < G.length := by simp) :
    We A (tLc (iSeq A.K tl) (gName j) (tB (tCB (rIsi A.K) (tCons (tVar j) (tCons (tC (.ty "tuple")) tNil)))) (tOp (rIx A.K) (tVar j) (tC (.int 1))) [j]) G M R := by
  refine w_lcL (ds := vs.map Val.d) (fun i acc => acc = (rootsOf (vs.take i)).map D.int) (h.imp fun x M1 ⟨a, b, e, hm, hb, hd⟩ => ⟨a, b, e, hm, hb, rfl, fun p i acc d hdi hI => ?_, fun p acc hI => ?_⟩)
  · obtain ⟨v, hv, rfl⟩ := map_get hdi
    subst hI
    have rl := rootsOf_len (vs := vs.take i)
    have tl : (vs.take i).length ≤ vs.length := by simp; omega
    have sn := rootsOf_snoc hv
    have g1 : (G.set j (some v.d))[j]? = some (some v.d) := List.getElem?_set_self hj
    refine wt_B (w_cb (wa_cons (w_var g1 (wa_cons (w_ty (wa_nil (i_vt ?_)))))))
    refine ⟨v.isP, rfl, fun e => ?_, fun e => ⟨?_, .refl _⟩⟩
    · cases v with
      | ptr w p2 =>
        refine w_op (w_var g1 (w_int (x_v1 ⟨by rw [List.length_map]; omega, ?_, .refl _⟩)))
        rw [sn, if_pos e, List.map_append]
        rfl
      | non => cases e
      | num i => cases e
    · rw [sn, if_neg (by rw [e]; simp), List.append_nil]
  · subst hI
    rw [List.length_map, List.take_length]
    exact hd p
theorem cut_T2 {a b : D} {l : List D} : D.tup (cutD (a :: b :: l) (some 2) none) = .tup l := by
  have e : cutD (a :: b :: l) (some 2) none = l := by
    unfold cutD
    rw [show HT.sIx (a :: b :: l).length 0 (some 2) = 2 from by
      have := HT.sIx_nat (a :: b :: l).length 0 2
      rw [show (some (2 : Int)) = some ((2 : Nat) : Int) from rfl, this]
      simp]
    show (List.take ((a :: b :: l).length - 2) l) = l
    exact List.take_of_length_le (by simp)
  rw [e]
theorem cut_T2s {a : D} : D.tup (cutD [a] (some 2) none) = .tup [] := by
  have e : cutD [a] (some 2) none = [] := by
    unfold cutD
    rw [show HT.sIx [a].length 0 (some 2) = 1 from by
      have := HT.sIx_nat [a].length 0 2
      rw [show (some (2 : Int)) = some ((2 : Nat) : Int) from rfl, this]
      simp]
    rfl
  rw [e]
theorem pr_law_roots_in {K : PySem.W.Frag} {C : Exs} {vs : List V} {H : Hp} {Q : VK} {E : XK} (hsp : spOf K (fs_law_roots_in C) vs H Q E) : t_law_roots_in K C E { nx := fun _ H' => Q .non H', rt := Q } (L2.start n_law_roots_in vs) H := by
  refine body_of (t := fun E => t_law_roots_in K C E) hsp fun dd rb A nx rt E hK hp hr _ hF hN => ?_
  subst hK
  try dsimp only at hp hr
  cases hr
  unfold t_law_roots_in
  show Ns A _ [some dd.d, none, none, none] []
  have ok : dd.ok := hp
  have fin : ∀ G p rb, Rt A rt G (.obj p) ((p, .lst (dd.named.map D.int)) :: rb) := fun G p rb => fin_n (re := fun d : Deed => d.named.map D.int) hF .here
  cases dd with
  | minor =>
    dsimp only [Deed.d]
    refine ns_seq (ns_asg (lc_flag (ds := []) false (by simp) ?_))
    walk_at "go"
    refine ⟨cut_T2s, fun Hb ht p acc d => ?_, fun p => ?_⟩
    · walk_at "go"
      walk_at "tG"
      walk_at "tG"
      exact ⟨rfl, rfl⟩
    walk_at "go"
    walk_at "tG"
    refine lc_roots (vs := []) (by simp) ?_
    walk_at "go"
    refine ⟨p, _, rfl, mem0, rfl, fun p2 => ?_⟩
    walk_at "go"
    walk_at "tG"
    walk_at "tG"
    refine c_lenT ?_
    walk_at "go"
    exact fin _ _ _
  | major =>
    dsimp only [Deed.d]
    refine ns_seq (ns_asg (lc_flag (ds := []) false (by simp) ?_))
    walk_at "go"
    refine ⟨cut_T2s, fun Hb ht p acc d => ?_, fun p => ?_⟩
    · walk_at "go"
      walk_at "tG"
      walk_at "tG"
      exact ⟨rfl, rfl⟩
    walk_at "go"
    walk_at "tG"
    refine lc_roots (vs := []) (by simp) ?_
    walk_at "go"
    refine ⟨p, _, rfl, mem0, rfl, fun p2 => ?_⟩
    walk_at "go"
    walk_at "tG"
    walk_at "tG"
    refine c_lenT ?_
    walk_at "go"
    exact fin _ _ _
  | look k =>
    dsimp only [Deed.d]
    refine ns_seq (ns_asg (lc_flag (ds := []) false (by simp) ?_))
    walk_at "go"
    refine ⟨cut_T2, fun Hb ht p acc d => ?_, fun p => ?_⟩
    · walk_at "go"
      walk_at "tG"
      walk_at "tG"
      exact ⟨rfl, rfl⟩
    walk_at "go"
    walk_at "tG"
    refine lc_roots (vs := []) (by simp) ?_
    walk_at "go"
    refine ⟨p, _, rfl, mem0, rfl, fun p2 => ?_⟩
    walk_at "go"
    walk_at "tG"
    walk_at "tG"
    refine w_append ?_
    walk_at "go"
    refine ⟨p2, _, rfl, mem0, ?_⟩
    walk_at "go"
    refine ⟨_, _, .here, by simp [rootsOf], ?_⟩
    walk_at "go"
    exact fin _ _ _
  | same k j =>
    dsimp only [Deed.d]
    refine ns_seq (ns_asg (lc_flag (ds := [.int j]) false (by simp) ?_))
    walk_at "go"
    refine ⟨cut_T2, fun Hb ht p acc d => ?_, fun p => ?_⟩
    · walk_at "go"
      walk_at "tG"
      walk_at "tG"
      exact ⟨rfl, rfl⟩
    walk_at "go"
    walk_at "tG"
    refine lc_roots (vs := []) (by simp) ?_
    walk_at "go"
    refine ⟨p, _, rfl, mem0, rfl, fun p2 => ?_⟩
    walk_at "go"
    walk_at "tG"
    walk_at "tG"
    refine w_append ?_
    walk_at "go"
    refine ⟨p2, _, rfl, mem0, ?_⟩
    walk_at "go"
    refine x_c2 ?_
    refine ⟨_, _, .here, by simp [rootsOf], ?_⟩
    walk_at "go"
    refine c_lenT ?_
    walk_at "go"
    refine w_append ?_
    walk_at "go"
    refine ⟨p2, _, rfl, mem0, ?_⟩
    walk_at "go"
    refine ⟨_, _, .here, by simp [rootsOf], ?_⟩
    walk_at "go"
    exact fin _ _ _
  | take k j f =>
    dsimp only [Deed.d]
    refine ns_seq (ns_asg (lc_flag (ds := [.int j, .int f]) false (by simp) ?_))
    walk_at "go"
    refine ⟨cut_T2, fun Hb ht p acc d => ?_, fun p => ?_⟩
    · walk_at "go"
      walk_at "tG"
      walk_at "tG"
      exact ⟨rfl, rfl⟩
    walk_at "go"
    walk_at "tG"
    refine lc_roots (vs := []) (by simp) ?_
    walk_at "go"
    refine ⟨p, _, rfl, mem0, rfl, fun p2 => ?_⟩
    walk_at "go"
    walk_at "tG"
    refine w_append ?_
    walk_at "go"
    refine ⟨p2, _, rfl, mem0, ?_⟩
    walk_at "go"
    refine x_c2 ?_
    refine ⟨_, _, .here, by simp [rootsOf], ?_⟩
    walk_at "go"
    refine w_append ?_
    walk_at "go"
    refine ⟨p2, _, rfl, mem0, ?_⟩
    walk_at "go"
    refine ⟨_, _, .here, by simp [rootsOf], ?_⟩
    walk_at "go"
    exact fin _ _ _
  | set k q =>
    dsimp only [Deed.d]
    have rl := rootsOf_len (vs := [q])
    have rl : (rootsOf [q]).length ≤ 1 := rl
    refine ns_seq (ns_asg (lc_flag (ds := [q.d]) true (by simp) ?_))
    walk_at "go"
    refine ⟨cut_T2, fun Hb ht p acc d => ?_, fun p => ?_⟩
    · walk_at "go"
      walk_at "tG"
      exact ⟨rfl, rfl⟩
    walk_at "go"
    walk_at "tG"
    refine lc_roots (vs := [q]) (by simp) ?_
    walk_at "go"
    refine ⟨p, _, rfl, mem0, rfl, fun p2 => ?_⟩
    walk_at "go"
    walk_at "tG"
    walk_at "tG"
    refine c_lenT ?_
    walk_at "go"
    refine w_append ?_
    walk_at "go"
    refine ⟨p2, _, rfl, mem0, ?_⟩
    walk_at "go"
    refine ⟨_, _, .here, by rw [List.length_map]; omega, ?_⟩
    walk_at "go"
    have := fin [some (.tup [.str "set", .int k, q.d]), some (.obj p), some (.obj p2), none] p2 [(p, .lst [q.d])]
    rw [show (Deed.set k q).named.map D.int = (rootsOf [q]).map D.int ++ [.int k] by simp [Deed.named]] at this
    exact this
  | put k f q =>
    dsimp only [Deed.d]
    have rl := rootsOf_len (vs := [.num f, q])
    have rl : (rootsOf [.num f, q]).length ≤ 2 := rl
    refine ns_seq (ns_asg (lc_flag (ds := [.int f, q.d]) true (by simp) ?_))
    walk_at "go"
    refine ⟨cut_T2, fun Hb ht p acc d => ?_, fun p => ?_⟩
    · walk_at "go"
      walk_at "tG"
      walk_at "tG"
      exact ⟨rfl, rfl⟩
    walk_at "go"
    walk_at "tG"
    refine lc_roots (vs := [.num f, q]) (by simp) ?_
    walk_at "go"
    refine ⟨p, _, rfl, mem0, rfl, fun p2 => ?_⟩
    walk_at "go"
    walk_at "tG"
    walk_at "tG"
    refine w_append ?_
    walk_at "go"
    refine ⟨p2, _, rfl, mem0, ?_⟩
    walk_at "go"
    refine ⟨_, _, .here, by rw [List.length_map]; omega, ?_⟩
    walk_at "go"
    have := fin [some (.tup [.str "put", .int k, .int f, q.d]), some (.obj p), some (.obj p2), none] p2 [(p, .lst [.int f, q.d])]
    rw [show (Deed.put k f q).named.map D.int = (rootsOf [.num f, q]).map D.int ++ [.int k] by simp [Deed.named, rootsOf, Val.isP]] at this
    exact this
  | make k ps =>
    dsimp only [Deed.d]
    obtain ⟨hl, hpt⟩ : ps.length ≤ 100 ∧ ∀ p ∈ ps, p.pt = true := ok
    have rl := rootsOf_len (vs := ps)
    refine ns_seq (ns_asg (lc_flag (ds := [row ps]) false (by simp) ?_))
    walk_at "go"
    refine ⟨cut_T2, fun Hb ht p acc d => ?_, fun p => ?_⟩
    · walk_at "go"
      walk_at "tG"
      walk_at "tG"
      exact ⟨rfl, rfl⟩
    walk_at "go"
    walk_at "tG"
    refine x_c2 ?_
    walk_at "go"
    refine c_listT fun p3 => ?_
    walk_at "go"
    refine lc_roots (vs := ps) (by omega) ?_
    walk_at "go"
    refine ⟨p3, _, rfl, mem0, rfl, fun p2 => ?_⟩
    walk_at "go"
    walk_at "tG"
    walk_at "tG"
    refine c_lenT ?_
    walk_at "go"
    refine w_append ?_
    walk_at "go"
    refine ⟨p2, _, rfl, mem0, ?_⟩
    walk_at "go"
    refine ⟨_, _, .here, by rw [List.length_map]; omega, ?_⟩
    walk_at "go"
    have := fin [some (.tup [.str "make", .int k, row ps]), some (.obj p3), some (.obj p2), none] p2 [(p3, .lst (ps.map Val.d)), (p, .lst [])]
    rw [show (Deed.make k ps).named.map D.int = (rootsOf ps).map D.int ++ [.int k] by simp [Deed.named]] at this
    exact this
theorem pr_law_meant {K : PySem.W.Frag} {C : Exs} {vs : List V} {H : Hp} {Q : VK} {E : XK} (hsp : spOf K (fs_law_meant C) vs H Q E) : t_law_meant K C E { nx := fun _ H' => Q .non H', rt := Q } (L2.start n_law_meant vs) H := by
  refine body_of (t := fun E => t_law_meant K C E) hsp fun ⟨p, r, rs⟩ rb A nx rt E hK hp hr _ hF hN => ?_
  subst hK
  try dsimp only at hp hr
  obtain ⟨b, rfl, hb, hw⟩ := rs1 hr
  unfold t_law_meant
  show Ns A _ [some p.d, some (.obj r)] [(r, b)]
  have hp : (partAt rs p).isSome = true := hp
  have hb : b.rb = .l (rs.map Val.d) := hb
  walk_at "go"
  cases p with
  | non => exact split_lit_f (ns_next (ns_ret (w_var rfl (fin0 hF ⟨rfl, rfl⟩))))
  | num i => exact split_lit_f (ns_next (ns_ret (w_var rfl (fin0 hF ⟨rfl, rfl⟩))))
  | ptr w j =>
    refine split_lit_t ?_
    cases e : partAt rs (.ptr w j) with
    | none => rw [e] at hp; cases hp
    | some v =>
      obtain ⟨h1, h2⟩ := rootAt_get (show rootAt rs j = some v from e)
      walk_at "go"
      refine x_lmap (xs := rs) (f := Val.d) mem0 hb (inR_pos h1).1 h2 ?_
      refine fin0 hF ⟨?_, rfl⟩
      show v.d = ((partAt rs (.ptr w j)).getD .non).d
      rw [e]
      rfl

theorem rootAt_of {rs : List Val} {k : Int} (h : inR k rs.length = true) : ∃ v, rootAt rs k = some v ∧ rs[k.toNat]? = some v ∧ 0 ≤ k ∧ k < (rs.length : Int) := by
  have hin := inR_pos h
  have e := List.getElem?_eq_getElem (show k.toNat < rs.length by omega)
  refine ⟨_, ?_, e, hin.1, hin.2⟩
  unfold rootAt
  rw [h, if_pos rfl, e]
theorem rootAt_no {rs : List Val} {k : Int} (h : inR k rs.length = false) : rootAt rs k = none := by
  unfold rootAt
  rw [h, if_neg (by simp)]
theorem partAt_of {rs : List Val} {p : Val} (h : ∀ k ∈ rootsOf [p], inR k rs.length = true) : ∃ v, partAt rs p = some v := by
  cases p with
  | ptr w j =>
    obtain ⟨v, e, _⟩ := rootAt_of (h j (show j ∈ [j] from List.mem_singleton.mpr rfl))
    exact ⟨v, e⟩
  | non => exact ⟨_, rfl⟩
  | num i => exact ⟨_, rfl⟩
theorem partAt_no {rs : List Val} {p : Val} {k : Int} (hk : k ∈ rootsOf [p]) (h : inR k rs.length = false) : partAt rs p = none := by
  cases p with
  | ptr w j =>
    have : k = j := List.mem_singleton.mp (show k ∈ [j] from hk)
    subst this
    exact rootAt_no h
  | non => simp [rootsOf, Val.isP] at hk
  | num i => simp [rootsOf, Val.isP] at hk
theorem rootsOf_mem {ps : List Val} {k : Int} : k ∈ rootsOf ps ↔ ∃ p ∈ ps, k ∈ rootsOf [p] := by
  unfold rootsOf
  simp only [List.mem_map, List.mem_filter, List.mem_singleton]
  constructor
  · rintro ⟨p, ⟨h1, h2⟩, h3⟩
    exact ⟨p, h1, p, ⟨rfl, h2⟩, h3⟩
  · rintro ⟨p, h1, q, ⟨rfl, h2⟩, h3⟩
    exact ⟨q, ⟨h1, h2⟩, h3⟩
theorem allParts_of {rs ps : List Val} (h : ∀ k ∈ rootsOf ps, inR k rs.length = true) : allParts rs ps = true := List.all_eq_true.mpr fun p hp => by
  obtain ⟨v, e⟩ := partAt_of (rs := rs) (p := p) fun k hk => h k (rootsOf_mem.mpr ⟨p, hp, hk⟩)
  rw [e]; rfl
theorem allParts_no {rs ps : List Val} {k : Int} (hk : k ∈ rootsOf ps) (h : inR k rs.length = false) : allParts rs ps = false := by
  obtain ⟨p, hp, hk⟩ := rootsOf_mem.mp hk
  unfold allParts
  rw [List.all_eq_false]
  exact ⟨p, hp, by rw [partAt_no hk h]; simp⟩
/-- a root that is named and is none: refused -/
theorem plStep_bad {s : Pl} {dd : Deed} {k : Int} (hk : k ∈ dd.named) (h : inR k s.ro.length = false) : plStep s dd = (s, .str "no root") := by
  have rn := rootAt_no h
  cases dd with
  | minor => cases hk
  | major => cases hk
  | look k2 =>
    cases List.mem_singleton.mp hk
    dsimp only [plStep]
    rw [rn]
  | same k2 j =>
    dsimp only [plStep]
    rcases List.mem_cons.mp hk with rfl | hk
    · rw [rn]
      cases rootAt s.ro k2 <;> rfl
    · cases List.mem_singleton.mp hk
      rw [rn]
  | take k2 j f =>
    dsimp only [plStep]
    rcases List.mem_cons.mp hk with rfl | hk
    · rw [rn]
      cases rootAt s.ro k2 <;> rfl
    · cases List.mem_singleton.mp hk
      rw [rn]
  | set k2 p =>
    dsimp only [plStep]
    rcases List.mem_append.mp hk with hk | hk
    · rw [partAt_no hk h]
      cases rootAt s.ro k2 <;> rfl
    · cases List.mem_singleton.mp hk
      rw [rn]
  | put k2 f p =>
    dsimp only [plStep]
    rcases List.mem_append.mp hk with hk | hk
    · rw [partAt_no hk h]
      cases rootAt s.ro k2 <;> rfl
    · cases List.mem_singleton.mp hk
      rw [rn]
  | make k2 ps =>
    dsimp only [plStep]
    rcases List.mem_append.mp hk with hk | hk
    · rw [allParts_no hk h, Bool.and_false, if_neg (by simp)]
    · cases List.mem_singleton.mp hk
      rw [rn]
      rfl
theorem pr_law_asked {K : PySem.W.Frag} {C : Exs} {vs : List V} {H : Hp} {Q : VK} {E : XK} (hsp : spOf K (fs_law_asked C) vs H Q E) : t_law_asked K C E { nx := fun _ H' => Q .non H', rt := Q } (L2.start n_law_asked vs) H := by
  refine body_of (t := fun E => t_law_asked K C E) hsp fun ⟨n, h, r, th, roots, ts, dd⟩ rb A nx rt E hK hp hr _ hF hN => ?_
  subst hK
  try dsimp only at hp hr
  obtain ⟨br, rbT, rfl, hbr, hwr, hT⟩ := rsC hr
  unfold t_law_asked
  show Ns A _ [some dd.d, some (.obj r), some (.obj th), none] ((r, br) :: rbT)
  obtain ⟨S, ask, nm⟩ := hp
  have S : Sims n h ⟨roots, rowsOf ts⟩ := S
  have ask : dd.ask = true := ask
  have nm : Named roots dd := nm
  have hbr : br.rb = .l (roots.map Val.d) := hbr
  have hm := rs_mem hT
  obtain ⟨bth, hbt, hbr2⟩ := hm th (.l (ts.map fun t => .obj t.1)) List.mem_cons_self
  obtain ⟨φ, Q, SS⟩ := S
  cases dd with
  | minor => cases ask
  | major => cases ask
  | make k ps => cases ask
  | set k p => cases ask
  | put k f p => cases ask
  | take k j f => cases ask
  | look k =>
    obtain ⟨x, e0, e1, k0, k1⟩ := rootAt_of (nm k List.mem_cons_self)
    dsimp only [Deed.d]
    walk_at "go"
    refine x_lmap (xs := roots) (f := Val.d) mem0 hbr k0 e1 ?_
    walk_at "go"
    walk_at "tG"
    rcases SS.row (s := ⟨roots, rowsOf ts⟩) (fun z => SS.qr x (List.mem_of_getElem? e1) z) with ⟨e3, h1, _, _⟩ | ⟨i, row, o, q, t, rfl, h1, hr1, _⟩
    · rw [e3]
      refine split_lit_f ?_
      walk_at "go"
      refine fin0 hF ⟨?_, rfl⟩
      show x.d = (plStep ⟨roots, rowsOf ts⟩ (.look k)).2
      dsimp only [plStep]
      rw [e0]
      dsimp only
      rw [h1]
    · obtain ⟨ai, hti⟩ := rows_at hr1
      obtain ⟨bi, hbi, hbir⟩ := hm ai (.l (row.map Val.d)) (List.mem_cons_of_mem _ (List.mem_map.mpr ⟨(ai, row), List.mem_of_getElem? hti, rfl⟩))
      refine split_lit_t ?_
      walk_at "go"
      refine w_tup ?_
      walk_at "go"
      refine x_lmap (xs := ts) (f := fun t : Addr × List Val => D.obj t.1) (x := (ai, row)) (List.mem_cons_of_mem _ hbt) hbr2 (by omega) (by rw [show (i : Int).toNat = i by omega]; exact hti) ?_
      walk_at "go"
      refine n_lmap (xs := row) (f := Val.d) (List.mem_cons_of_mem _ hbi) hbir ?_
      walk_at "go"
      refine ⟨by simp, fin0 hF ⟨?_, rfl⟩⟩
      show _ = (plStep ⟨roots, rowsOf ts⟩ (.look k)).2
      dsimp only [plStep]
      rw [e0]
      dsimp only
      rw [h1]
  | same k j =>
    obtain ⟨x, e0, e1, k0, k1⟩ := rootAt_of (nm k (List.mem_cons_of_mem _ List.mem_cons_self))
    obtain ⟨y, e3, e4, j0, j1⟩ := rootAt_of (nm j List.mem_cons_self)
    have fin : ∀ b G M, (x.isP && decide (x = y)) = b → Rt A rt G (.bl b) M := fun b G M e => fin0 hF ⟨by
      show _ = (plStep ⟨roots, rowsOf ts⟩ (.same k j)).2
      dsimp only [plStep]
      rw [e0, e3]
      dsimp only
      rw [e], rfl⟩
    dsimp only [Deed.d]
    walk_at "go"
    refine x_lmap (xs := roots) (f := Val.d) mem0 hbr k0 e1 ?_
    walk_at "go"
    walk_at "tG"
    cases ex : x.isP with
    | false =>
      rw [ex] at fin
      refine split_lit_f ?_
      exact fin _ _ _ rfl
    | true =>
      rw [ex] at fin
      refine split_lit_t ?_
      walk_at "go"
      refine x_c2 ?_
      refine x_lmap (xs := roots) (f := Val.d) mem0 hbr j0 e4 ?_
      refine e_vv ?_
      exact fin _ _ _ (by simp)

theorem cf_ask {A : Am} {C : Exs} {W : L2.St → XK} {G : Gm} {M rest : Bxs} {R : D → Bxs → Prop} {ds : List D} (g : AskG) (ha : [g.dd.d, .obj g.r, .obj g.th] = ds) (hp : Sims g.n g.h g.s ∧ g.dd.ask = true ∧ Named g.roots g.dd) (hs : Sel M (plB g.r g.th g.roots g.ts) rest) (k : R (plStep g.s g.dd).2 M) : Cf A (fs_law_asked C) W ds G M R :=
  ⟨g, M, plB g.r g.th g.roots g.ts, rest, ha, hp, fun _ h => (by cases h), .nil, hs, plB_sq, fun d M' ⟨h1, h2⟩ => by subst h1 h2; exact k, fun _ h => h.elim⟩
theorem named_take {rs : List Val} {ks : List Int} {i : Nat} {k : Int} (hk : ks[i]? = some k) (h : ∀ k ∈ ks.take i, inR k rs.length = true) (hi : inR k rs.length = true) : ∀ k ∈ ks.take (i + 1), inR k rs.length = true := fun j hj => by
  rw [take_snoc hk] at hj
  rcases List.mem_append.mp hj with z | z
  · exact h j z
  · cases List.mem_singleton.mp z
    exact hi
theorem ix_set {rs : List Val} {k : Int} (k0 : 0 ≤ k) (k1 : k < (rs.length : Int)) : ixN (rs.map Val.d).length k = some k.toNat := by
  rw [List.length_map]
  unfold ixN
  rw [if_pos k0, if_pos k1]
theorem named_len {dd : Deed} (ok : dd.ok) : dd.named.length ≤ 101 := by
  cases dd with
  | make k ps =>
    have h1 : ps.length ≤ 100 := ok.1
    have h2 := rootsOf_len (vs := ps)
    show (rootsOf ps ++ [k]).length ≤ 101
    simp
    omega
  | put k f p => have := rootsOf_len (vs := [p]); show (rootsOf [p] ++ [k]).length ≤ 101; simp at *; omega
  | set k p => have := rootsOf_len (vs := [p]); show (rootsOf [p] ++ [k]).length ≤ 101; simp at *; omega
  | _ => simp [Deed.named]
theorem plStep_ask {s : Pl} {dd : Deed} (h : dd.ask = true) : (plStep s dd).1 = s := by
  cases dd with
  | look k =>
    dsimp only [plStep]
    split
    · split <;> rfl
    · rfl
  | same k j =>
    dsimp only [plStep]
    split <;> rfl
  | _ => cases h
theorem pr_law_answer {K : PySem.W.Frag} {C : Exs} {vs : List V} {H : Hp} {Q : VK} {E : XK} (hsp : spOf K (fs_law_answer C) vs H Q E) : t_law_answer K C E { nx := fun _ H' => Q .non H', rt := Q } (L2.start n_law_answer vs) H := by
  refine body_of (t := fun E => t_law_answer K C E) hsp fun ⟨n, h, r, th, roots, ts, dd⟩ rb A nx rt E hK hp hr _ hF hN => ?_
  subst hK
  try dsimp only at hp hr
  cases hr
  unfold t_law_answer
  show Ns A _ [some dd.d, some (.obj r), some (.obj th), none, none, none, none] (plB r th roots ts ++ [])
  obtain ⟨S, ok, hn⟩ := hp
  have S0 : Sims n h ⟨roots, rowsOf ts⟩ := S
  have ok0 : dd.ok := ok
  have hn0 : n ≤ 1900 := hn
  clear S ok hn
  have lts : ts.length ≤ 1900 := by
    obtain ⟨φ, Q, SS⟩ := S0
    have : (rowsOf ts).length ≤ n := SS.lt
    rw [List.length_map] at this
    omega
  have fin : ∀ (d : D) (roots2 : List Val) (ts2 : List (Addr × List Val)) (G : Gm) (M : Bxs), plStep ⟨roots, rowsOf ts⟩ dd = (⟨roots2, rowsOf ts2⟩, d) → (∃ l, Sel M (plB r th roots2 ts2) l) → Rt A rt G d M := fun d roots2 ts2 G M e hs =>
    hF.1 _ _ _ (plB r th roots2 ts2) ⟨by show d = (plStep ⟨roots, rowsOf ts⟩ dd).2; rw [e], roots2, ts2, rfl, by show (plStep ⟨roots, rowsOf ts⟩ dd).1 = _; rw [e]⟩ plB_wr hs
  have nl := named_len ok0
  refine ns_seq ?_
  refine ns_forLx ?_
  walk_at "go"
  refine cf_n0 (rs := fun _ => []) (args := fun d : Deed => [d.d]) (re := fun d : Deed => d.named.map D.int) dd rfl rfl ok0 fun l => ?_
  refine ⟨l, dd.named.map D.int, fun i G M => ∃ x5, G = [some dd.d, some (.obj r), some (.obj th), none, none, x5, none] ∧ M = (l, .lst (dd.named.map D.int)) :: (plB r th roots ts ++ []) ∧ ∀ k ∈ dd.named.take i, inR k roots.length = true, rfl, ⟨none, rfl, rfl, fun k hk => (by simp at hk)⟩, ?_, ?_, ?_⟩
  · rintro i _ _ ⟨x5, rfl, rfl, _⟩
    exact ⟨_, mem0, rfl⟩
  · rintro i d _ _ hd ⟨x5, rfl, rfl, hi⟩
    obtain ⟨k, hk, rfl⟩ := map_get hd
    refine ns_ifB (fun b => b = !inR k roots.length) ?_ (fun e => ?_) (fun e => ?_)
    · walk_at "gi"
      refine split_deco (fun h0 => ?_) (fun h0 => ?_)
      · walk_at "gi"
        refine n_lmap (xs := roots) (f := Val.d) (b := .lst _) mem1 rfl ?_
        walk_at "gi"
        refine ⟨?_, .refl _⟩
        by_cases h1 : (roots.length : Int) ≤ k
        · simp [inR, h1, Int.not_lt.mpr h1]
        · have h2 : k < (roots.length : Int) := by omega
          have h3 : 0 ≤ k := by omega
          simp [inR, h1, h2, h3]
      · have h3 : ¬ 0 ≤ k := by omega
        exact ⟨by simp [inR, h3], .refl _⟩
    · have e : inR k roots.length = false := by simpa using e.symm
      walk_at "gi"
      exact fin _ roots ts _ _ (plStep_bad (s := ⟨roots, rowsOf ts⟩) (List.mem_of_getElem? hk) e) ⟨_, Sel.skip sel_app⟩
    · have e : inR k roots.length = true := by simpa using e.symm
      walk_at "gi"
      exact ns_i ⟨_, rfl, rfl, named_take hk hi e⟩
  rintro _ _ ⟨x5, rfl, rfl, hi⟩
  rw [List.length_map, List.take_length] at hi
  have nm : Named roots dd := hi
  clear hi hN
  generalize dd.named.map D.int = nms
  obtain ⟨φ, Q, SS⟩ := S0
  cases dd with
  | minor =>
    dsimp only [Deed.d]
    walk_at "go"
    walk_at "tG"
    walk_at "tG"
    walk_at "tG"
    walk_at "tG"
    walk_at "tG"
    walk_at "tG"
    exact fin _ roots ts _ _ rfl ⟨_, Sel.skip sel_app⟩
  | major =>
    dsimp only [Deed.d]
    walk_at "go"
    walk_at "tG"
    walk_at "tG"
    walk_at "tG"
    walk_at "tG"
    walk_at "tG"
    walk_at "tG"
    exact fin _ roots ts _ _ rfl ⟨_, Sel.skip sel_app⟩
  | look k =>
    dsimp only [Deed.d]
    walk_at "go"
    walk_at "tG"
    refine cf_ask ⟨n, h, r, th, roots, ts, .look k⟩ rfl ⟨⟨φ, Q, SS⟩, rfl, nm⟩ (Sel.skip sel_app) ?_
    exact fin _ roots ts _ _ (Prod.ext (plStep_ask rfl) rfl) ⟨_, Sel.skip sel_app⟩
  | same k j =>
    dsimp only [Deed.d]
    walk_at "go"
    walk_at "tG"
    walk_at "tG"
    refine cf_ask ⟨n, h, r, th, roots, ts, .same k j⟩ rfl ⟨⟨φ, Q, SS⟩, rfl, nm⟩ (Sel.skip sel_app) ?_
    exact fin _ roots ts _ _ (Prod.ext (plStep_ask rfl) rfl) ⟨_, Sel.skip sel_app⟩
  | set k p =>
    obtain ⟨x, e0, e1, k0, k1⟩ := rootAt_of (nm k (List.mem_append_right _ List.mem_cons_self))
    obtain ⟨v, e2⟩ := partAt_of (rs := roots) (p := p) fun j hj => nm j (List.mem_append_left _ hj)
    dsimp only [Deed.d]
    walk_at "go"
    walk_at "tG"
    walk_at "tG"
    walk_at "tG"
    walk_at "tG"
    refine ns_setL ?_
    walk_at "go"
    refine x_c2 ?_
    walk_at "go"
    refine cf_r1 (b := .lst _) (p, r, roots) rfl rfl (.there .here) rfl (by show (partAt roots p).isSome = true; rw [e2]; rfl) fun d hd => ?_
    have hd : d = ((partAt roots p).getD .non).d := hd
    rw [e2] at hd
    subst hd
    walk_at "go"
    refine ⟨r, _, k, k.toNat, _, rfl, rfl, ix_set k0 k1, .there .here, ?_⟩
    rw [show (some v).getD Val.non = v from rfl, ← set_map]
    walk_at "go"
    walk_at "tG"
    walk_at "tG"
    refine fin _ (roots.set k.toNat v) ts _ _ ?_ ⟨_, Sel.skip (sel_app (l := plB r th (roots.set k.toNat v) ts) (m := []))⟩
    dsimp only [plStep]
    rw [e0, e2]
  | make k ps =>
    obtain ⟨x, e0, e1, k0, k1⟩ := rootAt_of (nm k (List.mem_append_right _ List.mem_cons_self))
    have hall : allParts roots ps = true := allParts_of fun j hj => nm j (List.mem_append_left _ hj)
    have hps : ps.length ≤ 100 := ok0.1
    dsimp only [Deed.d]
    walk_at "go"
    walk_at "tG"
    walk_at "tG"
    walk_at "tG"
    refine w_append ?_
    walk_at "go"
    refine ⟨th, _, rfl, mem2, ?_⟩
    refine w_lcTP (xs := ps.map Val.d) (fun i e => ∀ p, ps[i]? = some p → e = ((partAt roots p).getD .non).d) ?_
    walk_at "go"
    refine x_c2 ?_
    refine ⟨rfl, by rw [List.length_map]; omega, fun Hb ht p2 i acc d hd => ?_, fun l2 acc hla hP => ?_⟩
    · obtain ⟨p, hp2, rfl⟩ := map_get hd
      have hs := List.all_eq_true.mp hall p (List.mem_of_getElem? hp2)
      walk_at "go"
      refine cf_r1 (b := .lst _) (p, r, roots) rfl rfl (.there (.there .here)) rfl hs fun d hd => ?_
      refine ⟨fun q hq => ?_, .refl _⟩
      rw [hp2] at hq
      cases hq
      exact hd
    have ea := all_of (f := Val.d) (g := fun p => (partAt roots p).getD .non) (bs := ps) (acc := acc) (by rw [hla, List.length_map]) fun i e v h1 h2 => hP i e h1 v h2
    subst ea
    rw [show ps.map (fun p => (partAt roots p).getD .non) = partVals roots ps from rfl]
    refine ⟨_, _, .there (.there (.there .here)), by rw [List.length_map]; omega, ?_⟩
    refine ns_perm ?_ (perm_new (ts := ts) (us := partVals roots ps) (l := l2) (x := (l, .lst nms)))
    refine ns_setL ?_
    refine w_tup ?_
    walk_at "go"
    refine n_lmap (xs := ts ++ [(l2, partVals roots ps)]) (f := fun t : Addr × List Val => D.obj t.1) mem1 rfl ?_
    walk_at "go"
    refine ⟨by simp, ?_⟩
    walk_at "go"
    refine ⟨r, _, k, k.toNat, _, rfl, rfl, ix_set k0 k1, .here, ?_⟩
    have ed : (roots.map Val.d).set k.toNat (.tup [.str (Str.ofString "thing"), .int (((ts ++ [(l2, partVals roots ps)]).length : Int) - 1)]) = (roots.set k.toNat (.ptr .t (ts.length : Int))).map Val.d := by
      rw [set_map, show ((ts ++ [(l2, partVals roots ps)]).length : Int) - 1 = (ts.length : Int) by simp]
      rfl
    rw [ed]
    walk_at "go"
    walk_at "tG"
    walk_at "tG"
    walk_at "tG"
    refine fin _ (roots.set k.toNat (.ptr .t (ts.length : Int))) (ts ++ [(l2, partVals roots ps)]) _ _ ?_ ⟨_, sel_app (l := plB r th (roots.set k.toNat (.ptr .t (ts.length : Int))) (ts ++ [(l2, partVals roots ps)])) (m := [(l, _)])⟩
    dsimp only [plStep]
    rw [e0, hall]
    simp
  | put k f p =>
    obtain ⟨x, e0, e1, k0, k1⟩ := rootAt_of (nm k (List.mem_append_right _ List.mem_cons_self))
    obtain ⟨v, e2⟩ := partAt_of (rs := roots) (p := p) fun j hj => nm j (List.mem_append_left _ hj)
    have fin2 : ∀ (d : D) (roots2 : List Val) (ts2 : List (Addr × List Val)) (G : Gm) (M : Bxs), plStep ⟨roots, rowsOf ts⟩ (.put k f p) = (⟨roots2, rowsOf ts2⟩, d) → (∃ l, Sel M (plB r th roots2 ts2) l) → Rt A rt G d M := fin
    dsimp only [plStep] at fin2
    rw [e0, e2] at fin2
    dsimp only at fin2
    dsimp only [Deed.d]
    walk_at "go"
    walk_at "tG"
    walk_at "tG"
    walk_at "tG"
    walk_at "tG"
    walk_at "tG"
    walk_at "tG"
    refine x_c1 ?_
    refine x_lmap (xs := roots) (f := Val.d) (b := .lst _) mem1 rfl k0 e1 ?_
    walk_at "go"
    walk_at "tG"
    refine x_c2 ?_
    walk_at "go"
    rcases SS.row (s := ⟨roots, rowsOf ts⟩) (fun z => SS.qr x (List.mem_of_getElem? e1) z) with ⟨e3, h1, _, _⟩ | ⟨i, row, o, q, t, rfl, h1, hr1, _⟩
    · rw [e3]
      refine split_nf ?_
      walk_at "go"
      refine fin2 _ roots ts _ _ ?_ ⟨_, Sel.skip sel_app⟩
      rw [h1]
      cases x <;> rfl
    · obtain ⟨ai, hti⟩ := rows_at hr1
      rw [h1] at fin2
      dsimp only at fin2
      refine split_nt ?_
      walk_at "go"
      refine split_deco (fun h0 => ?_) (fun h0 => ?_)
      rotate_left
      · walk_at "go"
        refine fin2 _ roots ts _ _ ?_ ⟨_, Sel.skip sel_app⟩
        rw [show inR f row.length = false by simp [inR]; omega, if_neg (by simp)]
      walk_at "go"
      refine x_lmap (xs := ts) (f := fun t : Addr × List Val => D.obj t.1) (b := .lst _) (x := (ai, row)) mem2 rfl (by omega) (by rw [show (i : Int).toNat = i by omega]; exact hti) ?_
      walk_at "go"
      refine n_lmap (xs := row) (f := Val.d) (b := .lst _) (List.mem_cons_of_mem _ (List.mem_cons_of_mem _ (List.mem_cons_of_mem _ (List.mem_append_left _ (List.mem_map.mpr ⟨(ai, row), List.mem_of_getElem? hti, rfl⟩))))) rfl ?_
      walk_at "go"
      refine split_dec (fun h2 => ?_) (fun h2 => ?_)
      · walk_at "go"
        refine fin2 _ roots ts _ _ ?_ ⟨_, Sel.skip sel_app⟩
        rw [show inR f row.length = false by simp [inR]; omega, if_neg (by simp)]
      have hin : inR f row.length = true := inR_of (by omega) (by omega)
      walk_at "go"
      walk_at "tG"
      refine ns_setL ?_
      walk_at "go"
      refine x_c3 ?_
      walk_at "go"
      refine cf_r1 (b := .lst _) (p, r, roots) rfl rfl (.there .here) rfl (by show (partAt roots p).isSome = true; rw [e2]; rfl) fun d hd => ?_
      have hd : d = ((partAt roots p).getD .non).d := hd
      rw [e2] at hd
      subst hd
      rw [show (some v).getD Val.non = v from rfl]
      walk_at "go"
      refine x_lmap (xs := ts) (f := fun t : Addr × List Val => D.obj t.1) (b := .lst _) (x := (ai, row)) mem2 rfl (by omega) (by rw [show (i : Int).toNat = i by omega]; exact hti) ?_
      walk_at "go"
      refine ⟨ai, _, f, f.toNat, _, rfl, rfl, ix_set (rs := row) (by omega) (by omega), .there (.there (.there (up_thB hti))), ?_⟩
      have z := fun G => fin2 (.str "done") roots (ts.set i (ai, row.set f.toNat v)) G ((l, .lst nms) :: (plB r th roots (ts.set i (ai, row.set f.toNat v)) ++ [])) (by
        rw [hin, if_pos rfl, rows_set, show (i : Int).toNat = i by omega]) ⟨_, Sel.skip sel_app⟩
      rw [show plB r th roots (ts.set i (ai, row.set f.toNat v)) = (r, .lst (roots.map Val.d)) :: (th, .lst (ts.map fun t => D.obj t.1)) :: thB (ts.set i (ai, row.set f.toNat v)) by rw [← obj_set (r2 := row.set f.toNat v) hti]] at z
      walk_at "go"
      exact z _
  | take k j f =>
    obtain ⟨x0, e0, e1, k0, k1⟩ := rootAt_of (nm k (List.mem_cons_of_mem _ List.mem_cons_self))
    obtain ⟨x, e2, e3, j0, j1⟩ := rootAt_of (nm j List.mem_cons_self)
    have fin2 : ∀ (d : D) (roots2 : List Val) (ts2 : List (Addr × List Val)) (G : Gm) (M : Bxs), plStep ⟨roots, rowsOf ts⟩ (.take k j f) = (⟨roots2, rowsOf ts2⟩, d) → (∃ l, Sel M (plB r th roots2 ts2) l) → Rt A rt G d M := fin
    dsimp only [plStep] at fin2
    rw [e0, e2] at fin2
    dsimp only at fin2
    dsimp only [Deed.d]
    walk_at "go"
    walk_at "tG"
    walk_at "tG"
    walk_at "tG"
    walk_at "tG"
    walk_at "tG"
    walk_at "tG"
    walk_at "tG"
    refine x_c2 ?_
    refine x_lmap (xs := roots) (f := Val.d) (b := .lst _) mem1 rfl j0 e3 ?_
    walk_at "go"
    walk_at "tG"
    refine x_c3 ?_
    walk_at "go"
    rcases SS.row (s := ⟨roots, rowsOf ts⟩) (fun z => SS.qr x (List.mem_of_getElem? e3) z) with ⟨e4, h1, _, _⟩ | ⟨i, row, o, q, t, rfl, h1, hr1, _⟩
    · rw [e4]
      refine split_nf ?_
      walk_at "go"
      refine fin2 _ roots ts _ _ ?_ ⟨_, Sel.skip sel_app⟩
      rw [h1]
    · obtain ⟨ai, hti⟩ := rows_at hr1
      rw [h1] at fin2
      dsimp only at fin2
      refine split_nt ?_
      walk_at "go"
      refine split_deco (fun h0 => ?_) (fun h0 => ?_)
      rotate_left
      · walk_at "go"
        refine fin2 _ roots ts _ _ ?_ ⟨_, Sel.skip sel_app⟩
        rw [show inR f row.length = false by simp [inR]; omega, if_neg (by simp)]
      walk_at "go"
      refine x_lmap (xs := ts) (f := fun t : Addr × List Val => D.obj t.1) (b := .lst _) (x := (ai, row)) mem2 rfl (by omega) (by rw [show (i : Int).toNat = i by omega]; exact hti) ?_
      walk_at "go"
      refine n_lmap (xs := row) (f := Val.d) (b := .lst _) (List.mem_cons_of_mem _ (List.mem_cons_of_mem _ (List.mem_cons_of_mem _ (List.mem_append_left _ (List.mem_map.mpr ⟨(ai, row), List.mem_of_getElem? hti, rfl⟩))))) rfl ?_
      walk_at "go"
      refine split_dec (fun h2 => ?_) (fun h2 => ?_)
      · walk_at "go"
        refine fin2 _ roots ts _ _ ?_ ⟨_, Sel.skip sel_app⟩
        rw [show inR f row.length = false by simp [inR]; omega, if_neg (by simp)]
      have hin : inR f row.length = true := inR_of (by omega) (by omega)
      obtain ⟨y, hy⟩ : ∃ y, row[f.toNat]? = some y := ⟨_, List.getElem?_eq_getElem (by omega)⟩
      walk_at "go"
      walk_at "tG"
      refine ns_setL ?_
      walk_at "go"
      refine x_lmap (xs := ts) (f := fun t : Addr × List Val => D.obj t.1) (b := .lst _) (x := (ai, row)) mem2 rfl (by omega) (by rw [show (i : Int).toNat = i by omega]; exact hti) ?_
      walk_at "go"
      refine x_lmap (xs := row) (f := Val.d) (b := .lst _) (List.mem_cons_of_mem _ (List.mem_cons_of_mem _ (List.mem_cons_of_mem _ (List.mem_append_left _ (List.mem_map.mpr ⟨(ai, row), List.mem_of_getElem? hti, rfl⟩))))) rfl (by omega) hy ?_
      walk_at "go"
      refine ⟨r, _, k, k.toNat, _, rfl, rfl, ix_set k0 k1, .there .here, ?_⟩
      rw [← set_map]
      walk_at "go"
      refine fin2 _ (roots.set k.toNat y) ts _ _ ?_ ⟨_, Sel.skip (sel_app (l := plB r th (roots.set k.toNat y) ts) (m := []))⟩
      rw [hin, if_pos rfl, List.getD_eq_getElem?_getD, hy]
      rfl

theorem okD_done : okD (.str "done") = true := by decide +kernel
theorem okD_noroot : okD (.str "no root") = true := by decide +kernel
theorem okD_nothing : okD (.str "no thing") = true := by decide +kernel
theorem okD_nofield : okD (.str "no field") = true := by decide +kernel
theorem pr_law_told {K : PySem.W.Frag} {C : Exs} {vs : List V} {H : Hp} {Q : VK} {E : XK} (hsp : spOf K (fs_law_told C) vs H Q E) : t_law_told K C E { nx := fun _ H' => Q .non H', rt := Q } (L2.start n_law_told vs) H := by
  refine body_of (t := fun E => t_law_told K C E) hsp fun d rb A nx rt E hK hp hr _ hF hN => ?_
  subst hK
  try dsimp only at hp hr
  cases hr
  unfold t_law_told
  show Ns A _ [some d, some d] []
  have str : ∀ x : Str, okD (.str x) = true → d = .str x → Ns A (t_law_told A.K C E ⟨nx, rt, fun _ _ => False, fun _ _ => False⟩) [some d, some d] [] := fun x ho e => by
    subst e
    unfold t_law_told
    walk_at "go"
    refine i_sb ?_
    walk_at "go"
    refine i_sb ?_
    walk_at "go"
    refine i_st ?_
    walk_at "go"
    refine o_eq ho ho ?_
    rw [eq_str, decide_eq_true rfl]
    exact fin0 hF ⟨rfl, rfl⟩
  have val : ∀ v : Val, d = v.d → Ns A (t_law_told A.K C E ⟨nx, rt, fun _ _ => False, fun _ _ => False⟩) [some d, some d] [] := fun v e => by
    subst e
    unfold t_law_told
    walk_at "go"
    cases v with
    | non =>
      refine i_ns ?_
      walk_at "go"
      refine i_nb ?_
      walk_at "go"
      exact cf_v (args := fun v : Val => [v.d, v.d]) (res := fun _ => D.bl true) .non rfl trivial (fin0 hF ⟨rfl, rfl⟩)
    | num i =>
      refine i_is ?_
      walk_at "go"
      refine i_ib ?_
      walk_at "go"
      exact cf_v (args := fun v : Val => [v.d, v.d]) (res := fun _ => D.bl true) (.num i) rfl trivial (fin0 hF ⟨rfl, rfl⟩)
    | ptr w p =>
      refine i_ts ?_
      walk_at "go"
      refine i_tb ?_
      walk_at "go"
      exact cf_v (args := fun v : Val => [v.d, v.d]) (res := fun _ => D.bl true) (.ptr w p) rfl trivial (fin0 hF ⟨rfl, rfl⟩)
  rcases hp with e | e | e | e | ⟨b, e⟩ | ⟨v, e⟩
  · exact str _ okD_done e
  · exact str _ okD_noroot e
  · exact str _ okD_nothing e
  · exact str _ okD_nofield e
  · subst e
    walk_at "go"
    refine i_bs ?_
    walk_at "go"
    refine i_bt ?_
    walk_at "go"
    rw [show (b == b) = true by cases b <;> rfl]
    exact fin0 hF ⟨rfl, rfl⟩
  · exact val v e
theorem pr_law_like_plain_k13 {K : PySem.W.Frag} {C : Exs} {vs : List V} {H : Hp} {Q : VK} {E : XK} (hsp : spOf K (fs_law_like_plain_k13 C) vs H Q E) : t_law_like_plain_k13 K C E { nx := fun _ H' => Q .non H', rt := Q } (L2.start n_law_like_plain_k13 vs) H := by
  refine body_of (t := fun E => t_law_like_plain_k13 K C E) hsp fun ⟨r, th, roots, ts, h⟩ rb A nx rt E hK hp hr _ hF hN => ?_
  subst hK
  try dsimp only at hp hr
  obtain ⟨br, rbT, rfl, hbr, hwr, hT⟩ := rsC hr
  unfold t_law_like_plain_k13
  show Ns A _ [some (.obj r), some (.obj th), some h.d, none, none, none, none] ((r, br) :: rbT)
  obtain ⟨φ, Q, S⟩ := hp
  have S : Sim 2000 h roots (rowsOf ts) φ Q := S
  have hbr : br.rb = .l (roots.map Val.d) := hbr
  have hT : RsOf rbT (thsR th ts) := hT
  have em := S.em
  have lr := S.lr
  have er := S.ro
  walk_at "gi"
  refine ns_if ?_
  walk_at "gi"
  refine cf_v (args := fun h : Hep => [h.d]) h rfl trivial ?_
  walk_at "gi"
  refine n_lmap (xs := roots) (f := Val.d) mem0 hbr ?_
  walk_at "gi"
  refine split_F (by rw [er]; simp) ?_
  walk_at "gi"
  refine w_dnewT fun t => ?_
  walk_at "gi"
  refine w_dnewT fun b => ?_
  walk_at "gi"
  refine w_lst ?_
  walk_at "gi"
  refine ⟨by simp, fun q => ?_⟩
  walk_at "gi"
  refine ns_perm (M' := boxM t b q φ (meet Val.isP [] (roots.take 0)) ++ (r, br) :: rbT) ?_ ((List.reverse_perm [(q, Box.lst []), (b, Box.dt []), (t, Box.dt [])]).append_right _)
  refine ns_forR1 (n := (roots.length : Int)) (fun i G M => ∃ x, G = [some (.obj r), some (.obj th), some h.d, some (.obj t), some (.obj b), some (.obj q), x] ∧ M = boxM t b q φ (meet Val.isP [] (roots.take i)) ++ (r, br) :: rbT) ?_ ?_ ?_
  · walk_at "gi"
    refine n_lmap (xs := roots) (f := Val.d) (b := br) mem3 hbr ?_
    walk_at "gi"
    exact ⟨rfl, ⟨by omega, by omega⟩, none, rfl, rfl⟩
  · rintro i _ _ hi ⟨x, rfl, rfl⟩
    obtain ⟨v, hv⟩ := get_of_lt hi
    have al : (meet Val.isP [] (roots.take i)).length ≤ 1000000 := by
      have := meet_len (p := Val.isP) (w := []) (vs := roots.take i)
      simp at this
      omega
    have aq := meet_all (Q := Q) (w := []) (vs := roots.take i) (fun _ z => (nomatch z)) fun v hv hp => S.qr v (List.mem_of_mem_take hv) hp
    refine ns_if ?_
    walk_at "gi"
    refine x_lmap (xs := roots) (f := Val.d) (b := br) mem3 hbr (by omega) hv ?_
    walk_at "gi"
    refine x_map (xs := h.ro) (x := φ v) (by omega) (by rw [show (i : Int).toNat = i by omega]; exact S.at_ hv) ?_
    walk_at "gi"
    refine cf_mat v φ _ t b q rfl (mat_ok em aq al fun hp => S.qr v (List.mem_of_getElem? hv) hp) (.cons .here (.cons .here (.cons .here .nil))) ?_
    walk_at "gi"
    exact ns_i ⟨_, rfl, by rw [take_snoc hv, meet_snoc]; rfl⟩
  rintro _ _ ⟨x, rfl, rfl⟩
  rw [show (roots.length : Int).toNat = roots.length by omega, List.take_length]
  have aq := meet_all (Q := Q) (w := []) (vs := roots) (fun _ z => (nomatch z)) fun v hv hp => S.qr v hv hp
  have lt : ts.length ≤ 2000 := by have := S.lt; simpa using this
  refine ns_seq (ns_if ?_)
  walk_at "gi"
  refine cf_wkp ⟨th, ts, h, Q, φ, meet Val.isP [] roots, t, b, q⟩ rfl ⟨em, fun v hv => (by obtain ⟨i, hi, e⟩ := S.qt v hv; exact ⟨i, by simpa using hi, e⟩), lt, fun t ht => (by have := S.ft t.2 (List.mem_map.mpr ⟨t, ht, rfl⟩); omega), nodup_meet .nil, aq⟩ (.cons .here (.cons .here (.cons .here .nil))) (sel_all.skip) (rs_sq hT) fun w1 => ?_
  walk_at "gi"
  have gd := S.gd (by decide)
  refine cf_v (args := fun l => [things l]) h.ol rfl ⟨gd.f.ol, gd.f.fo⟩ ?_
  walk_at "gi"
  refine cf_v (args := fun l : List (Int × Int) => [pairs l, pairs l]) h.bk (by rw [S.s.bk]) (by have := bk_len gd; show h.bk.length ≤ _; omega) ?_
  exact fin0 hF ⟨rfl, rfl⟩

theorem we_perm {A : Am} {te : TE} {G : Gm} {M : Bxs} {R : D → Bxs → Prop} (h : We A te G M fun d M1 => ∃ M2, M2.Perm M1 ∧ R d M2) : We A te G M R := fun σ H S Q q =>
  h σ H S Q fun d M1 v H1 ⟨M2, hp, k⟩ S1 t1 r1 => q d M2 v H1 k (S1.perm hp) t1 r1
theorem x_last {A : Am} {G : Gm} {M : Bxs} {R : D → Bxs → Prop} {a : Addr} {b : Box} {ds : List D} {d : D} (hm : (a, b) ∈ M) (hb : b.rb = .l (ds ++ [d])) (k : R d M) : Op2 A (rIx A.K) (.obj a) (.int (-1)) G M R := by
  refine o_ixL hm hb ?_ k
  unfold atI
  have e : ixN (ds ++ [d]).length (-1) = some ds.length := by
    unfold ixN
    rw [if_neg (by omega), if_pos (by simp; omega)]
    simp
    omega
  rw [e]
  show (ds ++ [d])[ds.length]? = some d
  simp
theorem up_app {p : Addr} {b b' : Box} {m m' : Bxs} (h : Up p b b' m m') : ∀ {l : Bxs}, Up p b b' (l ++ m) (l ++ m')
  | [] => h
  | _ :: l => .there (up_app h (l := l))
section
variable {A : Am} {C : Exs} {W : L2.St → XK} {G : Gm} {M rest : Bxs} {R : D → Bxs → Prop} {ds : List D}
theorem cf_ans (g : AskG) (ha : [g.dd.d, .obj g.r, .obj g.th] = ds) (hp : Sims g.n g.h g.s ∧ g.dd.ok ∧ g.n ≤ 1900) (hs : Sel M (plB g.r g.th g.roots g.ts) rest)
    (k : ∀ roots2 ts2, (plStep g.s g.dd).1 = ⟨roots2, rowsOf ts2⟩ → R (plStep g.s g.dd).2 (plB g.r g.th roots2 ts2 ++ rest)) : Cf A (fs_law_answer C) W ds G M R :=
  ⟨g, rest, [], rest, ha, hp, plB_wr, hs, .nil, .nil, fun d M' ⟨h1, roots2, ts2, h2, h3⟩ => by subst h1 h2; exact k roots2 ts2 h3, fun _ h => h.elim⟩
theorem cf_lik13 (g : LikG) (ha : [.obj g.r, .obj g.th, g.h.d] = ds) (hp : ∃ φ Q, Sim 2000 g.h g.roots (rowsOf g.ts) φ Q) (hs : Sel M (plB g.r g.th g.roots g.ts) rest) (k : R (.bl true) M) : Cf A (fs_law_like_plain_k13 C) W ds G M R :=
  ⟨g, M, plB g.r g.th g.roots g.ts, rest, ha, hp, fun _ h => (by cases h), .nil, hs, plB_sq, fun d M' ⟨h1, h2⟩ => by subst h1 h2; exact k, fun _ h => h.elim⟩
theorem cf_ply {b : Box} (g : PlyG) (ha : [.int (g.many : Int), .int g.room, .int g.pat, .obj g.a] = ds) (hp : g.many ≤ 150 ∧ g.dds.length ≤ 1000 ∧ ∀ d ∈ g.dds, d.ok) (hs : Pick M (g.a, b) rest) (hb : b.rb = .l (g.dds.map Deed.d))
    (k : ∀ p, R (.tup [.obj p, (hpRun g.room g.pat (hep0 g.many) g.dds).d]) ((p, .lst (plAns (pl0 g.many) g.dds)) :: M)) : Cf A (fs_play C) W ds G M R :=
  ⟨g, M, [(g.a, b)], rest, ha, hp, fun _ h => (by cases h), .nil, .cons hs .nil, .cons ⟨rfl, hb⟩ .nil, fun d M' ⟨p, h1, h2⟩ => by subst h1 h2; exact k p, fun _ h => h.elim⟩
end
theorem ansD {s : Pl} {dd : Deed} : AnsD (plStep s dd).2 := by
  have a1 : AnsD (.str "done") := .inl rfl
  have a2 : AnsD (.str "no root") := .inr (.inl rfl)
  have a3 : AnsD (.str "no thing") := .inr (.inr (.inl rfl))
  have a4 : AnsD (.str "no field") := .inr (.inr (.inr (.inl rfl)))
  have a5 : ∀ b, AnsD (.bl b) := fun b => .inr (.inr (.inr (.inr (.inl ⟨b, rfl⟩))))
  have a6 : ∀ v : Val, AnsD v.d := fun v => .inr (.inr (.inr (.inr (.inr ⟨v, rfl⟩))))
  cases dd <;> dsimp only [plStep]
  · split <;> assumption
  · split
    · split
      · split <;> assumption
      · assumption
    · assumption
  · split <;> assumption
  · split
    · split
      · split <;> assumption
      · assumption
    · assumption
  · split
    · split
      · exact a6 (.ptr .t _)
      · exact a6 _
    · assumption
  · split
    · exact a5 _
    · assumption
  · assumption
  · assumption
theorem ansD_all : ∀ {ds : List Deed} {s : Pl} {d : D}, d ∈ plAns s ds → AnsD d
  | [], _, _, h => by cases h
  | e :: ds, s, d, h => by
    rcases List.mem_cons.mp h with rfl | h
    · exact ansD
    · exact ansD_all h
/-! ### deeds compared -/
structure Okn (n : Nat) (d : D) : Prop where
  c : d.cl = true
  l : d.py.canLay0 = true
  k : d.py.depth ≤ n
theorem okn_all {n : Nat} : ∀ {ds : List D}, (∀ d ∈ ds, Okn n d) → D.cls ds = true ∧ PyData.canLayAll0 (D.pys ds) = true ∧ PyData.depthAll (D.pys ds) ≤ n
  | [], _ => ⟨rfl, rfl, Nat.zero_le _⟩
  | d :: ds, h => by
    have h1 := h d List.mem_cons_self
    obtain ⟨i1, i2, i3⟩ := okn_all (ds := ds) fun e he => h e (List.mem_cons_of_mem _ he)
    refine ⟨?_, ?_, ?_⟩
    · show (d.cl && D.cls ds) = true
      rw [h1.c, i1]; rfl
    · show (d.py.canLay0 && PyData.canLayAll0 (D.pys ds)) = true
      rw [h1.l, i2]; rfl
    · show max d.py.depth (PyData.depthAll (D.pys ds)) ≤ n
      have := h1.k
      omega
theorem okn_tup {n : Nat} {ds : List D} (h : ∀ d ∈ ds, Okn n d) : Okn (n + 1) (.tup ds) := by
  obtain ⟨h1, h2, h3⟩ := okn_all h
  exact ⟨h1, h2, by show PyData.depthAll (D.pys ds) + 1 ≤ n + 1; omega⟩
theorem okn_up {n m : Nat} {d : D} (h : Okn n d) (hm : n ≤ m) : Okn m d := ⟨h.c, h.l, Nat.le_trans h.k hm⟩
theorem okn_ok {n : Nat} {d : D} (h : Okn n d) (hn : n ≤ 64) : okD d = true := by
  unfold okD SeqAt.shaped
  rw [h.c, h.l]
  simp
  have := h.k
  omega
theorem okn_int {i : Int} : Okn 0 (.int i) := ⟨rfl, rfl, Nat.le_refl _⟩
theorem okn_str {x : Str} (h : okD (.str x) = true) : Okn 0 (.str x) := by
  unfold okD SeqAt.shaped at h
  simp only [Bool.and_eq_true] at h
  exact ⟨h.1, h.2.1, Nat.le_refl _⟩
theorem okn_val {v : Val} : Okn 2 v.d := by
  cases v with
  | non => exact ⟨rfl, rfl, Nat.zero_le _⟩
  | num i => exact ⟨rfl, rfl, Nat.zero_le _⟩
  | ptr w p =>
    refine okn_up (okn_tup (n := 0) fun d hd => ?_) (by decide)
    rcases List.mem_cons.mp hd with rfl | hd
    · exact okn_str ok_word
    · cases List.mem_singleton.mp hd
      exact okn_int
theorem okn_row {vs : List Val} : Okn 3 (row vs) := okn_tup fun d hd => by
  obtain ⟨v, _, rfl⟩ := List.mem_map.mp hd
  exact okn_val
theorem okn_deed (dd : Deed) : Okn 4 dd.d := by
  have z : ∀ {n : Nat} {d : D}, Okn n d → n ≤ 3 → Okn 3 d := fun h hn => okn_up h hn
  cases dd <;> refine okn_tup fun d hd => ?_ <;> simp only [List.mem_cons, List.not_mem_nil, or_false] at hd
  · rcases hd with rfl | rfl | rfl
    · exact z (okn_str (by decide +kernel)) (by decide)
    · exact z okn_int (by decide)
    · exact okn_row
  · rcases hd with rfl | rfl | rfl | rfl
    · exact z (okn_str (by decide +kernel)) (by decide)
    · exact z okn_int (by decide)
    · exact z okn_int (by decide)
    · exact z okn_val (by decide)
  · rcases hd with rfl | rfl | rfl
    · exact z (okn_str (by decide +kernel)) (by decide)
    · exact z okn_int (by decide)
    · exact z okn_val (by decide)
  · rcases hd with rfl | rfl | rfl | rfl
    · exact z (okn_str (by decide +kernel)) (by decide)
    · exact z okn_int (by decide)
    · exact z okn_int (by decide)
    · exact z okn_int (by decide)
  · rcases hd with rfl | rfl
    · exact z (okn_str (by decide +kernel)) (by decide)
    · exact z okn_int (by decide)
  · rcases hd with rfl | rfl | rfl
    · exact z (okn_str (by decide +kernel)) (by decide)
    · exact z okn_int (by decide)
    · exact z okn_int (by decide)
  · subst hd
    exact z (okn_str (by decide +kernel)) (by decide)
  · subst hd
    exact z (okn_str (by decide +kernel)) (by decide)
theorem ok_deeds {dds : List Deed} : okD (.tup (dds.map Deed.d)) = true := okn_ok (n := 5) (okn_tup fun d hd => by
  obtain ⟨dd, _, rfl⟩ := List.mem_map.mp hd
  exact okn_deed dd) (by decide)
mutual
theorem eqD_refl : ∀ d : D, eqD d d = true
  | .non => rfl
  | .bl b => by rw [eq_bl]; cases b <;> rfl
  | .int i => by rw [eq_int]; simp
  | .str x => by rw [eq_str]; simp
  | .tup ds => eqDs_refl ds
  | .obj a => rfl
  | .ty n => rfl
theorem eqDs_refl : ∀ ds : List D, eqD (.tup ds) (.tup ds) = true
  | [] => rfl
  | d :: ds => by
    show (eqD d d && eqD (.tup ds) (.tup ds)) = true
    rw [eqD_refl d, eqDs_refl ds]
    rfl
end
/-- the answer to the last deed is noted -/
theorem k13_due {A : Am} {C : Exs} {x0 x1 x2 x3 x8 x9 x10 x11 x12 x13 : Option D} {r th dl du : Addr} {many : Nat} {dds : List Deed} {dd : Deed} {roots : List Val} {ts : List (Addr × List Val)} {rb : Bxs} {NX : L2.St → Hp → Prop} (hm : many ≤ 200) (hl : dds.length ≤ 1800) (ok : ∀ d ∈ dds, d.ok) (okd : dd.ok) (es : plRun (pl0 many) dds = ⟨roots, rowsOf ts⟩)
    (hk : ∀ roots2 ts2, plRun (pl0 many) (dds ++ [dd]) = ⟨roots2, rowsOf ts2⟩ → Ns A NX [x0, x1, x2, x3, some (.obj r), some (.obj th), some (.obj dl), some (.obj du), x8, x9, x10, x11, x12, x13] ((du, .lst (plAns (pl0 many) (dds ++ [dd]))) :: (dl, .lst ((dds ++ [dd]).map Deed.d)) :: (plB r th roots2 ts2 ++ rb))) :
    We A (tBM A.K "list" rAppend (tVar 7) (tCons (tCall (spOf A.K (fs_law_answer C)) [] E0 (tCons (tOp (rIx A.K) (tVar 6) (tUn rNeg (tC (.int 1)))) (tCons (tVar 4) (tCons (tVar 5) tNil)))) tNil)) [x0, x1, x2, x3, some (.obj r), some (.obj th), some (.obj dl), some (.obj du), x8, x9, x10, x11, x12, x13] ((du, .lst (plAns (pl0 many) dds)) :: (dl, .lst ((dds ++ [dd]).map Deed.d)) :: (plB r th roots ts ++ rb))
      fun _ M1 => Ns A NX [x0, x1, x2, x3, some (.obj r), some (.obj th), some (.obj dl), some (.obj du), x8, x9, x10, x11, x12, x13] M1 := by
  have S := run_sims (room := 0) (pat := 0) (many := many) (dds := dds) hm hl ok dds.length (Nat.le_refl _)
  rw [List.take_length, es] at S
  refine w_append ?_
  walk_at "go"
  refine ⟨du, _, rfl, mem0, ?_⟩
  walk_at "go"
  refine x_last (ds := dds.map Deed.d) (d := dd.d) (b := .lst _) mem1 (by rw [List.map_append]; rfl) ?_
  walk_at "go"
  refine cf_ans ⟨dds.length, hpRun 0 0 (hep0 many) dds, r, th, roots, ts, dd⟩ rfl ⟨S, okd, by show dds.length ≤ 1900; omega⟩ (Sel.skip (Sel.skip sel_app)) fun roots2 ts2 e => ?_
  have e : (plStep ⟨roots, rowsOf ts⟩ dd).1 = ⟨roots2, rowsOf ts2⟩ := e
  have e2 : plAns (pl0 many) (dds ++ [dd]) = plAns (pl0 many) dds ++ [(plStep ⟨roots, rowsOf ts⟩ dd).2] := by rw [plAns_snoc, es]
  have hk := hk roots2 ts2 (by rw [plRun_snoc, es, e])
  rw [e2] at hk
  refine ⟨_, _, up_app .here, by rw [plAns_len]; omega, ?_⟩
  exact ns_perm hk (List.perm_append_comm_assoc [(du, _), (dl, _)] (plB r th roots2 ts2) rb)

theorem many_of {f : Int} {x : D} (hx : x ∈ [D.int 0, .int 1, .int 2, .int 2, .int 3, .int 3, .int 4, .int 5, .int 8, .int (f % 101)]) : ∃ n : Nat, x = .int (n : Int) ∧ n ≤ 100 := by
  simp only [List.mem_cons, List.not_mem_nil, or_false] at hx
  rcases hx with rfl | rfl | rfl | rfl | rfl | rfl | rfl | rfl | rfl | rfl
  · exact ⟨0, rfl, by decide⟩
  · exact ⟨1, rfl, by decide⟩
  · exact ⟨2, rfl, by decide⟩
  · exact ⟨2, rfl, by decide⟩
  · exact ⟨3, rfl, by decide⟩
  · exact ⟨3, rfl, by decide⟩
  · exact ⟨4, rfl, by decide⟩
  · exact ⟨5, rfl, by decide⟩
  · exact ⟨8, rfl, by decide⟩
  · exact ⟨(f % 101).toNat, by rw [show (((f % 101).toNat : Nat) : Int) = f % 101 by omega], by omega⟩
theorem pr_law_k13 {K : PySem.W.Frag} {mg : Str → Option Value} {C : Exs} {vs : List V} {H : Hp} {Q : VK} {E : XK} (T : Xt K mg C) (hsp : spOf K (fs_law_k13 C) vs H Q E) : t_law_k13 K C E { nx := fun _ H' => Q .non H', rt := Q } (L2.start n_law_k13 vs) H := by
  refine body_of (t := fun E => t_law_k13 K C E) hsp fun ⟨a, ns⟩ rb A nx rt E hK hp hr _ hF hN => ?_
  subst hK
  try dsimp only at hp hr
  obtain ⟨b0, rfl, hb, hw⟩ := rs1 hr
  unfold t_law_k13
  show Ns A _ [some (.obj a), none, none, none, none, none, none, none, none, none, none, none, none, none] [(a, b0)]
  refine ns_seq (ns_asg (w_cut (fun d => ∃ n : Nat, d = .int (n : Int) ∧ n ≤ 100) ?_ ?_))
  · refine w_op (w_lst ?_)
    walk_at "g1i"
    refine cf_r1 (a, ns, 0) rfl rfl .here hb (by show (0 : Int) ≤ 0; decide) fun d hd => ?_
    subst hd
    walk_at "g1i"
    refine ⟨by simp, fun p => ?_⟩
    walk_at "g1i"
    refine cf_r1 (a, ns, 0) rfl rfl (.there .here) hb (by show (0 : Int) ≤ 0; decide) fun d hd => ?_
    subst hd
    walk_at "g1i"
    refine x_four mem0 (by omega) (by simp; omega) fun x hx => ⟨many_of hx, List.sublist_cons_self _ _⟩
  rintro _ ⟨many, rfl, hmany⟩
  walk_at "gi"
  refine cf_r1 (a, ns, 1) rfl rfl .here hb (by show (0 : Int) ≤ 1; decide) fun d hd => ?_
  subst hd
  walk_at "gi"
  refine cf_x (args := fun g : Int => [.int g]) (cellAt ns 1) rfl trivial (fun d hd => ?_) fun _ z => z.elim
  obtain ⟨room, rfl⟩ := hd
  walk_at "g1i"
  refine cf_r1 (a, ns, 2) rfl rfl .here hb (by show (0 : Int) ≤ 2; decide) fun d hd => ?_
  subst hd
  walk_at "g1i"
  refine ns_ifA (fun d => ∃ i : Int, d = .int i) ?_ ?_
  · walk_at "g1i"
    refine cf_r1 (a, ns, 2) rfl rfl .here hb (by show (0 : Int) ≤ 2; decide) fun d hd => ?_
    subst hd
    walk_at "g1i"
    refine split_dec (fun _ => ?_) (fun _ => ?_)
    · walk_at "g1i"
      refine cf_r1 (a, ns, 2) rfl rfl .here hb (by show (0 : Int) ≤ 2; decide) fun d hd => ?_
      subst hd
      walk_at "g1i"
      exact ⟨.refl _, _, rfl⟩
    · exact ⟨.refl _, _, rfl, _, rfl⟩
  rintro _ ⟨pat, rfl⟩
  walk_at "cl"
  walk_at "gi"
  refine w_lcRP (n := (many : Int)) (fun i e => e = D.non) ?_
  walk_at "gi"
  refine ⟨rfl, by omega, fun p2 i acc hi => ?_, fun r acc hl hP => ?_⟩
  · walk_at "gi"
    exact ⟨rfl, .refl _⟩
  have ea : acc = (List.replicate many Val.non).map Val.d := by
    refine List.ext_getElem? fun i => ?_
    by_cases hi : i < acc.length
    · have e := List.getElem?_eq_getElem hi
      rw [e, hP i _ e]
      have hi2 : i < many := by omega
      simp [hi2, Val.d]
    · rw [List.getElem?_eq_none (by omega), List.getElem?_eq_none (by simp; omega)]
  subst ea
  walk_at "gi"
  refine w_lst ?_
  walk_at "gi"
  refine ⟨by simp, fun th => ?_⟩
  walk_at "gi"
  refine w_lst ?_
  walk_at "gi"
  refine ⟨by simp, fun dl => ?_⟩
  walk_at "gi"
  refine w_lst ?_
  walk_at "gi"
  refine ⟨by simp, fun du => ?_⟩
  walk_at "gi"
  refine cf_r1 (a, ns, 3) rfl rfl (.there (.there (.there (.there .here)))) hb (by show (0 : Int) ≤ 3; decide) fun d hd => ?_
  subst hd
  walk_at "gi"
  generalize cellAt ns 3 = f3
  obtain ⟨N, hN2, hN3⟩ : ∃ N : Nat, f3 * 48271 % 2147483647 % 140 * (if decide (f3 % 3 = 1) = true then 1 else 0) = (N : Int) ∧ N ≤ 139 := by
    split
    · exact ⟨(f3 * 48271 % 2147483647 % 140).toNat, by omega, by omega⟩
    · exact ⟨0, by omega, by omega⟩
  refine ns_perm (M' := (du, .lst (plAns (pl0 many) [])) :: (dl, .lst (([] : List Deed).map Deed.d)) :: (plB r th (pl0 many).ro [] ++ [(a, b0)])) ?_ (((List.Perm.swap _ _ _).cons _).cons _)
  refine ns_forR1 (n := (N : Int)) (fun i G M => ∃ (dds : List Deed) (roots : List Val) (ts : List (Addr × List Val)) (x12 : Option D), G = [some (.obj a), some (.int (many : Int)), some (.int room), some (.int pat), some (.obj r), some (.obj th), some (.obj dl), some (.obj du), some (.int f3), none, none, none, x12, none] ∧ M = (du, .lst (plAns (pl0 many) dds)) :: (dl, .lst (dds.map Deed.d)) :: (plB r th roots ts ++ [(a, b0)]) ∧ plRun (pl0 many) dds = ⟨roots, rowsOf ts⟩ ∧ dds.length = i ∧ ∀ d ∈ dds, d.ok) ?_ ?_ ?_
  · walk_at "g1i"
    exact ⟨by rw [hN2], ⟨by omega, by omega⟩, [], _, [], none, rfl, rfl, rfl, rfl, fun _ z => (nomatch z)⟩
  · rintro i _ _ hi ⟨dds, roots, ts, x12, rfl, rfl, es, hl, ok⟩
    refine ns_seq (ns_drop (w_append ?_))
    walk_at "gi"
    refine ⟨dl, _, rfl, mem1, ?_⟩
    refine w_tup ?_
    walk_at "gi"
    refine p_max ?_
    refine p_mod (by split <;> omega) ?_
    walk_at "gi"
    refine w_tup ?_
    walk_at "gi"
    refine ⟨by simp, ?_⟩
    walk_at "gi"
    refine ⟨by simp, ?_⟩
    generalize (i : Int) % (if (many : Int) > 1 then (many : Int) else 1) = kk
    refine ⟨_, _, .there .here, by rw [List.length_map]; omega, ?_⟩
    rw [show dds.map Deed.d ++ [D.tup [.str (Str.ofString "make"), .int kk, .tup []]] = (dds ++ [Deed.make kk []]).map Deed.d by rw [List.map_append]; rfl]
    walk_at "gi"
    have okd : (Deed.make kk []).ok := ⟨Nat.zero_le _, fun _ z => (nomatch z)⟩
    refine k13_due (dds := dds) (dd := .make kk []) (by omega) (by omega) ok okd es fun roots2 ts2 es2 => ?_
    refine ns_i ⟨dds ++ [.make kk []], roots2, ts2, _, rfl, rfl, es2, by simp [hl], fun d hd => ?_⟩
    rcases List.mem_append.mp hd with z | z
    · exact ok d z
    · cases List.mem_singleton.mp z
      exact okd
  rintro _ _ ⟨dds, roots, ts, x12, rfl, rfl, es, hl, ok⟩
  have hl : dds.length = N := by omega
  refine ns_seq ?_
  refine ns_forLx (we_perm ?_)
  walk_at "gi"
  refine p_cutL (b := b0) (List.mem_cons_of_mem _ (List.mem_cons_of_mem _ (List.mem_append_right _ List.mem_cons_self))) hb fun l => ?_
  obtain ⟨ms, em, lm⟩ := cut_ints (ns := ns) (lo := 4) (hi := 63)
  rw [show cutD (ns.map D.int) (some 4) (some 63) = ms.map D.int from em]
  refine ⟨(du, .lst (plAns (pl0 many) dds)) :: (dl, .lst (dds.map Deed.d)) :: (plB r th roots ts ++ [(l, .lst (ms.map D.int)), (a, b0)]), List.perm_middle (a := (l, Box.lst (ms.map D.int))) (l₁ := (du, Box.lst (plAns (pl0 many) dds)) :: (dl, Box.lst (dds.map Deed.d)) :: plB r th roots ts) (l₂ := [(a, b0)]), ?_⟩
  refine ⟨l, ms.map D.int, fun i G M => ∃ (dds : List Deed) (roots : List Val) (ts : List (Addr × List Val)) (x11 x13 : Option D), G = [some (.obj a), some (.int (many : Int)), some (.int room), some (.int pat), some (.obj r), some (.obj th), some (.obj dl), some (.obj du), some (.int f3), none, none, x11, x12, x13] ∧ M = (du, .lst (plAns (pl0 many) dds)) :: (dl, .lst (dds.map Deed.d)) :: (plB r th roots ts ++ [(l, .lst (ms.map D.int)), (a, b0)]) ∧ plRun (pl0 many) dds = ⟨roots, rowsOf ts⟩ ∧ dds.length = N + i ∧ ∀ d ∈ dds, d.ok, rfl, ⟨dds, roots, ts, none, none, rfl, rfl, es, hl, ok⟩, ?_, ?_, ?_⟩
  · rintro i _ _ ⟨dds, roots, ts, x11, x13, rfl, rfl, es, hl, ok⟩
    exact ⟨_, List.mem_cons_of_mem _ (List.mem_cons_of_mem _ (List.mem_append_right _ List.mem_cons_self)), rfl⟩
  · rintro i d _ _ hd ⟨dds, roots, ts, x11, x13, rfl, rfl, es, hl, ok⟩
    obtain ⟨c, hc, rfl⟩ := map_get hd
    have hi := (List.getElem?_eq_some_iff.mp hc).1
    walk_at "g1i"
    refine n_lmap (xs := dds) (f := Deed.d) (b := .lst _) mem1 rfl ?_
    walk_at "g1i"
    have s0 := Int.emod_nonneg ((c + 7919 * (dds.length : Int)) * 48271) (show (2147483647 : Int) ≠ 0 by decide)
    have s1 := Int.emod_lt_of_pos ((c + 7919 * (dds.length : Int)) * 48271) (show (0 : Int) < 2147483647 by decide)
    generalize (c + 7919 * (dds.length : Int)) * 48271 % 2147483647 = num at s0 s1
    refine w_append ?_
    walk_at "gi"
    refine ⟨dl, _, rfl, mem1, ?_⟩
    walk_at "gi"
    refine n_lmap (xs := dds) (f := Deed.d) (b := .lst _) mem1 rfl ?_
    walk_at "gi"
    refine cf_x (args := fun g : Int × Int => [.int g.1, .int g.2]) (c, (dds.length : Int)) rfl trivial (fun d hd => ?_) fun _ z => z.elim
    obtain ⟨far, rfl⟩ := hd
    walk_at "gi"
    refine cf_x (args := fun g : Int × Int × Nat => [.int g.1, .int g.2.1, .int (g.2.2 : Int)]) (num, far, many) rfl ⟨s0, s1, by show many ≤ 1000; omega⟩ (fun d hd => ?_) fun _ z => z.elim
    obtain ⟨dd, rfl, okd⟩ := hd
    refine ⟨_, _, .there .here, by rw [List.length_map]; omega, ?_⟩
    rw [show dds.map Deed.d ++ [dd.d] = (dds ++ [dd]).map Deed.d by rw [List.map_append]; rfl]
    walk_at "gi"
    refine k13_due (dds := dds) (dd := dd) (by omega) (by omega) ok okd es fun roots2 ts2 es2 => ?_
    refine ns_i ⟨dds ++ [dd], roots2, ts2, _, _, rfl, rfl, es2, by simp [hl]; omega, fun d hd => ?_⟩
    rcases List.mem_append.mp hd with z | z
    · exact ok d z
    · cases List.mem_singleton.mp z
      exact okd
  rintro _ _ ⟨dds, roots, ts, x11, x13, rfl, rfl, es, hl, ok⟩
  rw [List.length_map] at hl
  have sims := run_sims (room := room) (pat := pat) (many := many) (dds := dds) (by omega) (by omega) ok dds.length (Nat.le_refl _)
  rw [List.take_length, es] at sims
  walk_at "gi"
  refine c_listL (ds := dds.map Deed.d) (b := .lst _) mem1 rfl fun hd => ?_
  walk_at "gi"
  refine cf_ply (b := .lst _) ⟨many, room, pat, hd, dds⟩ rfl ⟨by show many ≤ 150; omega, by show dds.length ≤ 1000; omega, ok⟩ .here rfl fun p => ?_
  walk_at "gi"
  dsimp only
  generalize hpRun room pat (hep0 many) dds = hh at sims
  have ha : ∀ d ∈ plAns (pl0 many) dds, AnsD d := fun d h => ansD_all h
  have la : (plAns (pl0 many) dds).length ≤ 1000 := by rw [plAns_len]; omega
  generalize plAns (pl0 many) dds = ans at ha la
  refine ns_if ?_
  walk_at "gi"
  refine o_neL (b := .lst _) (b2 := .lst _) mem1 mem3 rfl rfl ok_deeds ok_deeds ?_
  rw [eqD_refl]
  walk_at "gi"
  refine ns_if ?_
  walk_at "gi"
  refine i_ll mem0 ?_
  walk_at "gi"
  refine c_lenL (ds := ans) (b := .lst _) mem0 rfl ?_
  walk_at "gi"
  refine c_lenL (ds := ans) (b := .lst _) mem2 rfl ?_
  walk_at "gi"
  refine split_F (by simp) ?_
  walk_at "gi"
  refine ns_forR1 (n := (ans.length : Int)) (fun i G M => ∃ x12, G = [some (.obj a), some (.int (many : Int)), some (.int room), some (.int pat), some (.obj r), some (.obj th), some (.obj dl), some (.obj du), some (.int f3), some (.obj hd), some (.tup [.obj p, hh.d]), x11, x12, x13] ∧ M = (p, .lst ans) :: (hd, .lst (dds.map Deed.d)) :: (du, .lst ans) :: (dl, .lst (dds.map Deed.d)) :: (plB r th roots ts ++ [(l, .lst (ms.map D.int)), (a, b0)])) ?_ ?_ ?_
  · walk_at "gi"
    refine c_lenL (ds := ans) (b := .lst _) mem2 rfl ?_
    walk_at "gi"
    exact ⟨rfl, ⟨by omega, by omega⟩, _, rfl, rfl⟩
  · rintro i _ _ hi ⟨x12, rfl, rfl⟩
    obtain ⟨d, hd2⟩ := get_of_lt hi
    refine ns_if ?_
    walk_at "gi"
    refine o_ixL (ds := ans) (b := .lst _) mem0 rfl (atI_of (by omega) hd2) ?_
    walk_at "gi"
    refine o_ixL (ds := ans) (b := .lst _) mem2 rfl (atI_of (by omega) hd2) ?_
    walk_at "gi"
    refine cf_v (args := fun d : D => [d, d]) d rfl (ha d (List.mem_of_getElem? hd2)) ?_
    walk_at "gi"
    exact ns_i ⟨_, rfl, rfl⟩
  rintro _ _ ⟨x12, rfl, rfl⟩
  walk_at "gi"
  obtain ⟨φ, Q, SS⟩ := sims
  refine cf_lik13 ⟨r, th, roots, ts, hh⟩ rfl ⟨φ, Q, SS.up (by omega)⟩ (Sel.skip (Sel.skip (Sel.skip (Sel.skip sel_app)))) ?_
  exact fin0 hF ⟨rfl, rfl⟩


abbrev FnP (K : PySem.W.Frag) (x : Str) (st : Stmt) (f : Addr) (fd : FuncData) : Prop := FunD K x x (defArgs st) (defBody st) (defScope st) [] [] f fd
theorem sc_is_pointer : FnScope n_is_pointer ["value"] (defScope (top 6)) := ⟨rfl, rfl, rfl, by decide +kernel, rfl, by decide +kernel, by decide +kernel⟩
theorem ok_is_pointer {P : Program} {w : World} {K : PySem.W.Frag} {mg : Str → Option Value} {base : Heap} {C : Exs} {f : Addr} {fd : FuncData} (B : Bt mg) (T : Xt K mg C) (F : FnP K "is_pointer" (top 6) f fd) (g : mg "is_pointer" = some (.ref f)) : Fk P w K mg base CX0 1 "is_pointer" (spOf K (fs_is_pointer C)) := by
  refine Fk.of (FunD.ok F sc_is_pointer (spOf_len (n := 1) fun _ => rfl) fun cdv A outer s H vs Q E hr h => ⟨t_is_pointer K C E, PSs.nox ?_, pr_is_pointer h⟩) g F.kp (FunD.bindsN F fun _ _ _ _ _ _ us hl => match us, hl with | [_], _ => rfl)
  have hu := hu_of hr
  exact (pss_one (ps_ret (pe_callB call_isi (by rfl) B.k_isinstance b_isinstance (pa_cons (pv 0) (pa_cons (pe_bltn rfl B.k_tuple b_tuple rfl) pa_nil)))))
theorem sc_changed : FnScope n_changed ["row", "at", "item"] (defScope (top 10)) := ⟨rfl, rfl, rfl, by decide +kernel, rfl, by decide +kernel, by decide +kernel⟩
theorem ok_changed {P : Program} {w : World} {K : PySem.W.Frag} {mg : Str → Option Value} {base : Heap} {C : Exs} {f : Addr} {fd : FuncData} (B : Bt mg) (T : Xt K mg C) (F : FnP K "changed" (top 10) f fd) (g : mg "changed" = some (.ref f)) : Fk P w K mg base CX0 1 "changed" (spOf K (fs_changed C)) := by
  refine Fk.of (FunD.ok F sc_changed (spOf_len (n := 3) fun _ => rfl) fun cdv A outer s H vs Q E hr h => ⟨t_changed K C E, PSs.nox ?_, pr_changed h⟩) g F.kp (FunD.bindsN F fun _ _ _ _ _ _ us hl => match us, hl with | [_, _, _], _ => rfl)
  have hu := hu_of hr
  exact (pss_one (ps_ret (pe_op op_plus (pe_op op_plus (pe_slice sl_cut (pv 0) po_none (po_some (pv 1))) (pe_tup (pa_cons (pv 2) pa_nil))) (pe_slice sl_cut (pv 0) (po_some (pe_op op_plus (pv 1) pe_int)) po_none))))
theorem sc_booked : FnScope n_booked ["book", "pair", "there"] (defScope (top 14)) := ⟨rfl, rfl, rfl, by decide +kernel, rfl, by decide +kernel, by decide +kernel⟩
theorem ok_booked {P : Program} {w : World} {K : PySem.W.Frag} {mg : Str → Option Value} {base : Heap} {C : Exs} {f : Addr} {fd : FuncData} (B : Bt mg) (T : Xt K mg C) (F : FnP K "booked" (top 14) f fd) (g : mg "booked" = some (.ref f)) : Fk P w K mg base CX0 1 "booked" (spOf K (fs_booked C)) := by
  refine Fk.of (FunD.ok F sc_booked (spOf_len (n := 3) fun _ => rfl) fun cdv A outer s H vs Q E hr h => ⟨t_booked K C E, PSs.nox ?_, pr_booked h⟩) g F.kp (FunD.bindsN F fun _ _ _ _ _ _ us hl => match us, hl with | [_, _, _], _ => rfl)
  have hu := hu_of hr
  exact (pss_cons (ps_setLc (i := 3) (own := [("one", 4)]) (g := gName 4) (tt := (tTest (tOp (rNeD K) (tVar 4) (tVar 1)))) rfl sc_booked.nd rfl rfl (sw_true rfl rfl rfl (by decide +kernel)) (pi_seq (pv 0)) (blkOk_by (N := n_booked) (sc := defScope (top 14)) (by decide +kernel)) (fun _ _ _ _ _ => pg_name (i := 4) sc_booked.nd rfl (Or.inl rfl)) (fun _ _ _ _ _ => (pts_one (pt_cmpR (op_neD hr.units) (pv 4) (pv 1) (nomark _)))) (fun _ _ _ _ _ => (pv 4)))
    (pss_cons (ps_if (pt_val (pv 2))
    (pss_one (ps_expr (pe_bm PySem.F.plainAttrs_list PySem.F.slot_list_append PySem.F.type_list_append mt_append (pv 3) (pa_cons (pv 1) pa_nil))))
    pss_nil)
    (pss_one (ps_ret (pe_callTy call_tupS (by rfl) B.k_tuple b_tuple (pa_cons (pe_callB call_srt (by rfl) B.k_sorted b_sorted (pa_cons (pv 3) pa_nil)) pa_nil))))))
theorem sc_started : FnScope n_started ["many"] (defScope (top 16)) := ⟨rfl, rfl, rfl, by decide +kernel, rfl, by decide +kernel, by decide +kernel⟩
theorem ok_started {P : Program} {w : World} {K : PySem.W.Frag} {mg : Str → Option Value} {base : Heap} {C : Exs} {f : Addr} {fd : FuncData} (B : Bt mg) (T : Xt K mg C) (F : FnP K "started" (top 16) f fd) (g : mg "started" = some (.ref f)) : Fk P w K mg base CX0 1 "started" (spOf K (fs_started C)) := by
  refine Fk.of (FunD.ok F sc_started (spOf_len (n := 1) fun _ => rfl) fun cdv A outer s H vs Q E hr h => ⟨t_started K C E, PSs.nox ?_, pr_started h⟩) g F.kp (FunD.bindsN F fun _ _ _ _ _ _ us hl => match us, hl with | [_], _ => rfl)
  have hu := hu_of hr
  exact (pss_one (ps_ret (pe_tup (pa_cons (pe_tup pa_nil) (pa_cons (pe_tup pa_nil) (pa_cons (pe_callTy call_tupS (by rfl) B.k_tuple b_tuple (pa_cons (pe_lc (own := [("k", 1)]) (g := gName 1) (tt := tYes) rfl sc_started.nd (pi_range1 (by rfl) B.k_range (pa_cons (pv 0) pa_nil)) (blkOk_by (N := n_started) (sc := defScope (top 16)) (by decide +kernel)) (fun _ _ _ _ _ => pg_name (i := 1) sc_started.nd rfl (Or.inl rfl)) (fun _ _ _ _ _ => pts_nil) (fun _ _ _ _ _ => pe_non)) pa_nil)) (pa_cons (pe_tup pa_nil) pa_nil)))))))
theorem sc_half_of : FnScope n_half_of ["heap", "pointer"] (defScope (top 17)) := ⟨rfl, rfl, rfl, by decide +kernel, rfl, by decide +kernel, by decide +kernel⟩
theorem ok_half_of {P : Program} {w : World} {K : PySem.W.Frag} {mg : Str → Option Value} {base : Heap} {C : Exs} {f : Addr} {fd : FuncData} (B : Bt mg) (T : Xt K mg C) (F : FnP K "half_of" (top 17) f fd) (g : mg "half_of" = some (.ref f)) : Fk P w K mg base CX0 1 "half_of" (spOf K (fs_half_of C)) := by
  refine Fk.of (FunD.ok F sc_half_of (spOf_len (n := 2) fun _ => rfl) fun cdv A outer s H vs Q E hr h => ⟨t_half_of K C E, PSs.nox ?_, pr_half_of h⟩) g F.kp (FunD.bindsN F fun _ _ _ _ _ _ us hl => match us, hl with | [_, _], _ => rfl)
  have hu := hu_of hr
  exact (pss_cons (ps_if (pt_cmpR (op_eqD hr.units) (pe_ix ix_seq (pv 1) pe_int (fun _ _ => rfl)) pe_str (nomark _))
    (pss_one (ps_ret (pe_ix ix_seq (pv 0) pe_int (fun _ _ => rfl))))
    pss_nil)
    (pss_one (ps_ret (pe_ix ix_seq (pv 0) pe_int (fun _ _ => rfl)))))
theorem sc_sure_field : FnScope n_sure_field ["thing", "k"] (defScope (top 21)) := ⟨rfl, rfl, rfl, by decide +kernel, rfl, by decide +kernel, by decide +kernel⟩
theorem ok_sure_field {P : Program} {w : World} {K : PySem.W.Frag} {mg : Str → Option Value} {base : Heap} {C : Exs} {f : Addr} {fd : FuncData} (B : Bt mg) (T : Xt K mg C) (F : FnP K "sure_field" (top 21) f fd) (g : mg "sure_field" = some (.ref f)) : Fk P w K mg base (L2.CX P w) 1 "sure_field" (spOf K (fs_sure_field C)) := by
  refine Fk.of (FunD.ok F sc_sure_field (spOf_len (n := 2) fun _ => rfl) fun cdv A outer s H vs Q E hr h => ⟨t_sure_field K C E, id ?_, pr_sure_field h⟩) g F.kp (FunD.bindsN F fun _ _ _ _ _ _ us hl => match us, hl with | [_, _], _ => rfl)
  have hu := hu_of hr
  exact (pss_one (ps_if (pt_not (pt_chain op_leq op_less pe_int (pv 1) (pe_callB call_lenS (by rfl) B.k_len b_len (pa_cons (pe_ix ix_seq (pv 0) pe_int (fun _ _ => rfl)) pa_nil))))
    (pss_one (ps_raiseT rfl (takes_of rfl rfl rfl rfl) (by exact pmk_own PySem.F.excBase_ValueError T.x_nf T.g_nf T.k_nf T.r_nf rfl)))
    pss_nil))
theorem sc_root_of : FnScope n_root_of ["heap", "k"] (defScope (top 40)) := ⟨rfl, rfl, rfl, by decide +kernel, rfl, by decide +kernel, by decide +kernel⟩
theorem ok_root_of {P : Program} {w : World} {K : PySem.W.Frag} {mg : Str → Option Value} {base : Heap} {C : Exs} {f : Addr} {fd : FuncData} (B : Bt mg) (T : Xt K mg C) (F : FnP K "root_of" (top 40) f fd) (g : mg "root_of" = some (.ref f)) : Fk P w K mg base (L2.CX P w) 1 "root_of" (spOf K (fs_root_of C)) := by
  refine Fk.of (FunD.ok F sc_root_of (spOf_len (n := 2) fun _ => rfl) fun cdv A outer s H vs Q E hr h => ⟨t_root_of K C E, id ?_, pr_root_of h⟩) g F.kp (FunD.bindsN F fun _ _ _ _ _ _ us hl => match us, hl with | [_, _], _ => rfl)
  have hu := hu_of hr
  exact (pss_cons (ps_if (pt_not (pt_chain op_leq op_less pe_int (pv 1) (pe_callB call_lenS (by rfl) B.k_len b_len (pa_cons (pe_ix ix_seq (pv 0) pe_int (fun _ _ => rfl)) pa_nil))))
    (pss_one (ps_raiseT rfl (takes_of rfl rfl rfl rfl) (by exact pmk_own PySem.F.excBase_ValueError T.x_nr T.g_nr T.k_nr T.r_nr rfl)))
    pss_nil)
    (pss_one (ps_ret (pe_ix ix_seq (pe_ix ix_seq (pv 0) pe_int (fun _ _ => rfl)) (pv 1) (fun _ _ => rfl)))))
theorem sc_law_cell_at : FnScope n_law_cell_at ["_law_script", "_law_k"] (defScope (top 47)) := ⟨rfl, rfl, rfl, by decide +kernel, rfl, by decide +kernel, by decide +kernel⟩
theorem ok_law_cell_at {P : Program} {w : World} {K : PySem.W.Frag} {mg : Str → Option Value} {base : Heap} {C : Exs} {f : Addr} {fd : FuncData} (B : Bt mg) (T : Xt K mg C) (F : FnP K "_law_cell_at" (top 47) f fd) (g : mg "_law_cell_at" = some (.ref f)) : Fk P w K mg base CX0 1 "_law_cell_at" (spOf K (fs_law_cell_at C)) := by
  refine Fk.of (FunD.ok F sc_law_cell_at (spOf_len (n := 2) fun _ => rfl) fun cdv A outer s H vs Q E hr h => ⟨t_law_cell_at K C E, PSs.nox ?_, pr_law_cell_at h⟩) g F.kp (FunD.bindsN F fun _ _ _ _ _ _ us hl => match us, hl with | [_, _], _ => rfl)
  have hu := hu_of hr
  exact (pss_cons (ps_if (pt_cmpR op_less (pv 1) (pe_callB call_lenS (by rfl) B.k_len b_len (pa_cons (pv 0) pa_nil)) (nomark _))
    (pss_one (ps_ret (pe_ix ix_seq (pv 0) (pv 1) (fun _ _ => rfl))))
    pss_nil)
    (pss_one (ps_ret pe_int)))
theorem sc_law_whole : FnScope n_law_whole ["_law_found"] (defScope (top 48)) := ⟨rfl, rfl, rfl, by decide +kernel, rfl, by decide +kernel, by decide +kernel⟩
theorem ok_law_whole {P : Program} {w : World} {K : PySem.W.Frag} {mg : Str → Option Value} {base : Heap} {C : Exs} {f : Addr} {fd : FuncData} (B : Bt mg) (T : Xt K mg C) (F : FnP K "_law_whole" (top 48) f fd) (g : mg "_law_whole" = some (.ref f)) : Fk P w K mg base CX0 1 "_law_whole" (spOf K (fs_law_whole C)) := by
  refine Fk.of (FunD.ok F sc_law_whole (spOf_len (n := 1) fun _ => rfl) fun cdv A outer s H vs Q E hr h => ⟨t_law_whole K C E, PSs.nox ?_, pr_law_whole h⟩) g F.kp (FunD.bindsN F fun _ _ _ _ _ _ us hl => match us, hl with | [_], _ => rfl)
  have hu := hu_of hr
  exact (pss_one (ps_ret (pe_and (pe_callB call_isi (by rfl) B.k_isinstance b_isinstance (pa_cons (pv 0) (pa_cons (pe_bltn rfl B.k_int b_int rfl) pa_nil))) (pe_one (pe_not (pe_callB call_isi (by rfl) B.k_isinstance b_isinstance (pa_cons (pv 0) (pa_cons (pe_bltn rfl B.k_bool b_bool rfl) pa_nil))))))))
theorem sc_law_book_of : FnScope n_law_book_of ["_law_old"] (defScope (top 51)) := ⟨rfl, rfl, rfl, by decide +kernel, rfl, by decide +kernel, by decide +kernel⟩
theorem ok_law_book_of {P : Program} {w : World} {K : PySem.W.Frag} {mg : Str → Option Value} {base : Heap} {C : Exs} {f : Addr} {fd : FuncData} (B : Bt mg) (T : Xt K mg C) (F : FnP K "_law_book_of" (top 51) f fd) (g : mg "_law_book_of" = some (.ref f)) : Fk P w K mg base CX0 1 "_law_book_of" (spOf K (fs_law_book_of C)) := by
  refine Fk.of (FunD.ok F sc_law_book_of (spOf_len (n := 1) fun _ => rfl) fun cdv A outer s H vs Q E hr h => ⟨t_law_book_of K C E, PSs.nox ?_, pr_law_book_of h⟩) g F.kp (FunD.bindsN F fun _ _ _ _ _ _ us hl => match us, hl with | [_], _ => rfl)
  have hu := hu_of hr
  exact (pss_cons (ps_set (i := 1) sc_law_book_of.nd rfl (by first | exact Or.inl rfl | exact Or.inr rfl) (pe_lst pa_nil))
    (pss_cons (ps_for PassesOwn.never rfl (pi_range1 (by rfl) B.k_range (pa_cons (pe_callB call_lenS (by rfl) B.k_len b_len (pa_cons (pv 0) pa_nil)) pa_nil)) (pg_name (i := 3) sc_law_book_of.nd rfl (by first | exact Or.inl rfl | exact Or.inr rfl))
    (pss_one (ps_for PassesOwn.never rfl (pi_range1 (by rfl) B.k_range (pa_cons (pe_callB call_lenS (by rfl) B.k_len b_len (pa_cons (pe_ix ix_seq (pe_ix ix_seq (pv 0) (pv 3) (fun _ _ => rfl)) pe_int (fun _ _ => rfl)) pa_nil)) pa_nil)) (pg_name (i := 4) sc_law_book_of.nd rfl (by first | exact Or.inl rfl | exact Or.inr rfl))
    (pss_cons (ps_set (i := 2) sc_law_book_of.nd rfl (by first | exact Or.inl rfl | exact Or.inr rfl) (pe_ix ix_seq (pe_ix ix_seq (pe_ix ix_seq (pv 0) (pv 3) (fun _ _ => rfl)) pe_int (fun _ _ => rfl)) (pv 4) (fun _ _ => rfl)))
    (pss_one (ps_if (PW.pt (pw_and (pt_val (pe_callB call_isi (by rfl) B.k_isinstance b_isinstance (pa_cons (pv 2) (pa_cons (pe_bltn rfl B.k_tuple b_tuple rfl) pa_nil)))) (pw_and1 (pt_cmpR (op_eqD hr.units) (pe_ix ix_seq (pv 2) pe_int (fun _ _ => rfl)) pe_str (nomark _)))))
    (pss_one (ps_expr (pe_bm PySem.F.plainAttrs_list PySem.F.slot_list_append PySem.F.type_list_append mt_append (pv 1) (pa_cons (pe_tup (pa_cons (pv 3) (pa_cons (pv 4) pa_nil))) pa_nil))))
    pss_nil))))))
    (pss_one (ps_ret (pe_callTy call_tupS (by rfl) B.k_tuple b_tuple (pa_cons (pv 1) pa_nil))))))
theorem sc_law_leads : FnScope n_law_leads ["_law_heap", "_law_pointer"] (defScope (top 52)) := ⟨rfl, rfl, rfl, by decide +kernel, rfl, by decide +kernel, by decide +kernel⟩
theorem ok_law_leads {P : Program} {w : World} {K : PySem.W.Frag} {mg : Str → Option Value} {base : Heap} {C : Exs} {f : Addr} {fd : FuncData} (B : Bt mg) (T : Xt K mg C) (F : FnP K "_law_leads" (top 52) f fd) (g : mg "_law_leads" = some (.ref f)) : Fk P w K mg base CX0 1 "_law_leads" (spOf K (fs_law_leads C)) := by
  refine Fk.of (FunD.ok F sc_law_leads (spOf_len (n := 2) fun _ => rfl) fun cdv A outer s H vs Q E hr h => ⟨t_law_leads K C E, PSs.nox ?_, pr_law_leads h⟩) g F.kp (FunD.bindsN F fun _ _ _ _ _ _ us hl => match us, hl with | [_, _], _ => rfl)
  have hu := hu_of hr
  exact (pss_cons (ps_set (i := 2) sc_law_leads.nd rfl (by first | exact Or.inl rfl | exact Or.inr rfl) (pe_ix ix_seq (pv 0) pe_int (fun _ _ => rfl)))
    (pss_cons (ps_if (pt_cmpR (op_eqD hr.units) (pe_ix ix_seq (pv 1) pe_int (fun _ _ => rfl)) pe_str (nomark _))
    (pss_one (ps_set (i := 2) sc_law_leads.nd rfl (by first | exact Or.inl rfl | exact Or.inr rfl) (pe_ix ix_seq (pv 0) pe_int (fun _ _ => rfl))))
    pss_nil)
    (pss_one (ps_ret (pe_and (pe_cmpR op_leq pe_int (pe_ix ix_seq (pv 1) pe_int (fun _ _ => rfl)) (nomark _)) (pe_one (pe_cmpR op_less (pe_ix ix_seq (pv 1) pe_int (fun _ _ => rfl)) (pe_callB call_lenS (by rfl) B.k_len b_len (pa_cons (pv 2) pa_nil)) (nomark _))))))))
theorem sc_law_fields : FnScope n_law_fields ["_law_heap", "_law_pointer"] (defScope (top 53)) := ⟨rfl, rfl, rfl, by decide +kernel, rfl, by decide +kernel, by decide +kernel⟩
theorem ok_law_fields {P : Program} {w : World} {K : PySem.W.Frag} {mg : Str → Option Value} {base : Heap} {C : Exs} {f : Addr} {fd : FuncData} (B : Bt mg) (T : Xt K mg C) (F : FnP K "_law_fields" (top 53) f fd) (g : mg "_law_fields" = some (.ref f)) : Fk P w K mg base CX0 1 "_law_fields" (spOf K (fs_law_fields C)) := by
  refine Fk.of (FunD.ok F sc_law_fields (spOf_len (n := 2) fun _ => rfl) fun cdv A outer s H vs Q E hr h => ⟨t_law_fields K C E, PSs.nox ?_, pr_law_fields h⟩) g F.kp (FunD.bindsN F fun _ _ _ _ _ _ us hl => match us, hl with | [_, _], _ => rfl)
  have hu := hu_of hr
  exact (pss_cons (ps_if (pt_cmpR (op_eqD hr.units) (pe_ix ix_seq (pv 1) pe_int (fun _ _ => rfl)) pe_str (nomark _))
    (pss_one (ps_ret (pe_ix ix_seq (pe_ix ix_seq (pe_ix ix_seq (pv 0) pe_int (fun _ _ => rfl)) (pe_ix ix_seq (pv 1) pe_int (fun _ _ => rfl)) (fun _ _ => rfl)) pe_int (fun _ _ => rfl))))
    pss_nil)
    (pss_one (ps_ret (pe_ix ix_seq (pe_ix ix_seq (pe_ix ix_seq (pv 0) pe_int (fun _ _ => rfl)) (pe_ix ix_seq (pv 1) pe_int (fun _ _ => rfl)) (fun _ _ => rfl)) pe_int (fun _ _ => rfl)))))
theorem sc_law_number_by : FnScope n_law_number_by ["_law_cell", "_law_turn"] (defScope (top 58)) := ⟨rfl, rfl, rfl, by decide +kernel, rfl, by decide +kernel, by decide +kernel⟩
theorem ok_law_number_by {P : Program} {w : World} {K : PySem.W.Frag} {mg : Str → Option Value} {base : Heap} {C : Exs} {f : Addr} {fd : FuncData} (B : Bt mg) (T : Xt K mg C) (F : FnP K "_law_number_by" (top 58) f fd) (g : mg "_law_number_by" = some (.ref f)) : Fk P w K mg base CX0 1 "_law_number_by" (spOf K (fs_law_number_by C)) := by
  refine Fk.of (FunD.ok F sc_law_number_by (spOf_len (n := 2) fun _ => rfl) fun cdv A outer s H vs Q E hr h => ⟨t_law_number_by K C E, PSs.nox ?_, pr_law_number_by h⟩) g F.kp (FunD.bindsN F fun _ _ _ _ _ _ us hl => match us, hl with | [_, _], _ => rfl)
  have hu := hu_of hr
  exact (pss_cons (ps_if (pt_cmpR (op_eqD hr.units) (pe_op op_modu (pv 0) pe_int) pe_int (nomark _))
    (pss_one (ps_ret (pe_op op_times (pe_op op_modu (pe_op op_floor (pv 0) pe_int) (pe_op op_minus (pe_op op_power pe_int pe_int) pe_int)) (pe_ix ix_seq (pe_lst (pa_cons pe_int (pa_cons (pe_un un_negm pe_int) pa_nil))) (pe_op op_modu (pv 1) pe_int) (fun _ _ => rfl)))))
    pss_nil)
    (pss_one (ps_ret (pe_op op_minus (pe_op op_modu (pe_op op_floor (pv 0) pe_int) pe_int) pe_int))))
theorem sc_law_part_by : FnScope n_law_part_by ["_law_code", "_law_far", "_law_k", "_law_many"] (defScope (top 59)) := ⟨rfl, rfl, rfl, by decide +kernel, rfl, by decide +kernel, by decide +kernel⟩
theorem ok_law_part_by {P : Program} {w : World} {K : PySem.W.Frag} {mg : Str → Option Value} {base : Heap} {C : Exs} {f : Addr} {fd : FuncData} (B : Bt mg) (T : Xt K mg C) (F : FnP K "_law_part_by" (top 59) f fd) (g : mg "_law_part_by" = some (.ref f)) : Fk P w K mg base CX0 1 "_law_part_by" (spOf K (fs_law_part_by C)) := by
  refine Fk.of (FunD.ok F sc_law_part_by (spOf_len (n := 4) fun _ => rfl) fun cdv A outer s H vs Q E hr h => ⟨t_law_part_by K C E, PSs.nox ?_, pr_law_part_by h⟩) g F.kp (FunD.bindsN F fun _ _ _ _ _ _ us hl => match us, hl with | [_, _, _, _], _ => rfl)
  have hu := hu_of hr
  exact (pss_cons (ps_if (pt_cmpR op_less (pv 0) pe_int (nomark _))
    (pss_one (ps_ret (pe_ix ix_seq (pe_lst (pa_cons pe_non (pa_cons (pv 1) pa_nil))) (pv 0) (fun _ _ => rfl))))
    pss_nil)
    (pss_cons (ps_if (PW.pt (pw_and (pt_cmpR op_less (pv 0) pe_int (nomark _)) (pw_and1 (pt_cmpR op_more (pv 3) pe_int (nomark _)))))
    (pss_one (ps_ret (pe_tup (pa_cons pe_str (pa_cons (pe_op op_modu (pe_op op_plus (pe_op op_minus (pv 0) pe_int) (pv 2)) (pv 3)) pa_nil)))))
    pss_nil)
    (pss_one (ps_ret (pe_tup (pa_cons pe_str (pa_cons (pe_ix ix_seq (pe_lst (pa_cons (pe_un un_negm pe_int) (pa_cons (pv 3) (pa_cons (pe_un un_negm pe_int) (pa_cons (pv 1) pa_nil))))) (pe_op op_modu (pv 2) pe_int) (fun _ _ => rfl)) pa_nil)))))))
theorem sc_law_root_by : FnScope n_law_root_by ["_law_code", "_law_many"] (defScope (top 60)) := ⟨rfl, rfl, rfl, by decide +kernel, rfl, by decide +kernel, by decide +kernel⟩
theorem ok_law_root_by {P : Program} {w : World} {K : PySem.W.Frag} {mg : Str → Option Value} {base : Heap} {C : Exs} {f : Addr} {fd : FuncData} (B : Bt mg) (T : Xt K mg C) (F : FnP K "_law_root_by" (top 60) f fd) (g : mg "_law_root_by" = some (.ref f)) : Fk P w K mg base CX0 1 "_law_root_by" (spOf K (fs_law_root_by C)) := by
  refine Fk.of (FunD.ok F sc_law_root_by (spOf_len (n := 2) fun _ => rfl) fun cdv A outer s H vs Q E hr h => ⟨t_law_root_by K C E, PSs.nox ?_, pr_law_root_by h⟩) g F.kp (FunD.bindsN F fun _ _ _ _ _ _ us hl => match us, hl with | [_, _], _ => rfl)
  have hu := hu_of hr
  exact (pss_cons (ps_if (pt_cmpR op_less (pv 0) (pe_op op_times pe_int (pv 1)) (nomark _))
    (pss_one (ps_ret (pe_op op_modu (pv 0) (pv 1))))
    pss_nil)
    (pss_one (ps_ret (pe_ix ix_seq (pe_lst (pa_cons (pe_un un_negm pe_int) (pa_cons (pv 1) (pa_cons (pe_un un_negm pe_int) (pa_cons (pe_op op_power pe_int pe_int) pa_nil))))) (pe_op op_minus (pv 0) (pe_op op_times pe_int (pv 1))) (fun _ _ => rfl)))))
theorem sc_law_roots_in : FnScope n_law_roots_in ["_law_deed"] (defScope (top 63)) := ⟨rfl, rfl, rfl, by decide +kernel, rfl, by decide +kernel, by decide +kernel⟩
theorem ok_law_roots_in {P : Program} {w : World} {K : PySem.W.Frag} {mg : Str → Option Value} {base : Heap} {C : Exs} {f : Addr} {fd : FuncData} (B : Bt mg) (T : Xt K mg C) (F : FnP K "_law_roots_in" (top 63) f fd) (g : mg "_law_roots_in" = some (.ref f)) : Fk P w K mg base CX0 1 "_law_roots_in" (spOf K (fs_law_roots_in C)) := by
  refine Fk.of (FunD.ok F sc_law_roots_in (spOf_len (n := 1) fun _ => rfl) fun cdv A outer s H vs Q E hr h => ⟨t_law_roots_in K C E, PSs.nox ?_, pr_law_roots_in h⟩) g F.kp (FunD.bindsN F fun _ _ _ _ _ _ us hl => match us, hl with | [_], _ => rfl)
  have hu := hu_of hr
  exact (pss_cons (ps_setLc (i := 1) (own := [("_law_part", 3)]) (g := gName 3) (tt := (tOr (tTest (tOp (rEqD K) (tOp (rIx K) (tVar 0) (tC (.int 0))) (tC (.str "set")))) (tTest (tOp (rEqD K) (tOp (rIx K) (tVar 0) (tC (.int 0))) (tC (.str "put")))))) rfl sc_law_roots_in.nd rfl rfl (sw_true rfl rfl rfl (by decide +kernel)) (pi_seq (pe_slice sl_cut (pv 0) (po_some pe_int) po_none)) (blkOk_by (N := n_law_roots_in) (sc := defScope (top 63)) (by decide +kernel)) (fun _ _ _ _ _ => pg_name (i := 3) sc_law_roots_in.nd rfl (Or.inl rfl)) (fun _ _ _ _ _ => (pts_one (PW.pt (pw_or (pt_cmpR (op_eqD hr.units) (pe_ix ix_seq (pv 0) pe_int (fun _ _ => rfl)) pe_str (nomark _)) (pw_or1 (pt_cmpR (op_eqD hr.units) (pe_ix ix_seq (pv 0) pe_int (fun _ _ => rfl)) pe_str (nomark _))))))) (fun _ _ _ _ _ => (pv 3)))
    (pss_cons (ps_if (pt_cmpR (op_eqD hr.units) (pe_ix ix_seq (pv 0) pe_int (fun _ _ => rfl)) pe_str (nomark _))
    (pss_one (ps_set (i := 1) sc_law_roots_in.nd rfl (by first | exact Or.inl rfl | exact Or.inr rfl) (pe_callTy call_listS (by rfl) B.k_list b_list (pa_cons (pe_ix ix_seq (pv 0) pe_int (fun _ _ => rfl)) pa_nil))))
    pss_nil)
    (pss_cons (ps_setLc (i := 2) (own := [("_law_part", 3)]) (g := gName 3) (tt := (tB (tCB (rIsi K) (tCons (tVar 3) (tCons (tC (.ty "tuple")) tNil))))) rfl sc_law_roots_in.nd rfl rfl (sw_true rfl rfl rfl (by decide +kernel)) (pi_seq (pv 1)) (blkOk_by (N := n_law_roots_in) (sc := defScope (top 63)) (by decide +kernel)) (fun _ _ _ _ _ => pg_name (i := 3) sc_law_roots_in.nd rfl (Or.inl rfl)) (fun _ _ _ _ _ => (pts_one (pt_val (pe_callB call_isi (by rfl) B.k_isinstance b_isinstance (pa_cons (pv 3) (pa_cons (pe_bltn rfl B.k_tuple b_tuple rfl) pa_nil)))))) (fun _ _ _ _ _ => (pe_ix ix_seq (pv 3) pe_int (fun _ _ => rfl))))
    (pss_cons (ps_if (PW.pt (pw_or (pt_cmpR (op_eqD hr.units) (pe_ix ix_seq (pv 0) pe_int (fun _ _ => rfl)) pe_str (nomark _)) (pw_or1 (pt_cmpR (op_eqD hr.units) (pe_ix ix_seq (pv 0) pe_int (fun _ _ => rfl)) pe_str (nomark _)))))
    (pss_one (ps_expr (pe_bm PySem.F.plainAttrs_list PySem.F.slot_list_append PySem.F.type_list_append mt_append (pv 2) (pa_cons (pe_ix ix_seq (pv 0) pe_int (fun _ _ => rfl)) pa_nil))))
    pss_nil)
    (pss_cons (ps_if (pt_cmpR op_more (pe_callB call_lenS (by rfl) B.k_len b_len (pa_cons (pv 0) pa_nil)) pe_int (nomark _))
    (pss_one (ps_expr (pe_bm PySem.F.plainAttrs_list PySem.F.slot_list_append PySem.F.type_list_append mt_append (pv 2) (pa_cons (pe_ix ix_seq (pv 0) pe_int (fun _ _ => rfl)) pa_nil))))
    pss_nil)
    (pss_one (ps_ret (pv 2))))))))
theorem sc_law_meant : FnScope n_law_meant ["_law_part", "_law_roots"] (defScope (top 64)) := ⟨rfl, rfl, rfl, by decide +kernel, rfl, by decide +kernel, by decide +kernel⟩
theorem ok_law_meant {P : Program} {w : World} {K : PySem.W.Frag} {mg : Str → Option Value} {base : Heap} {C : Exs} {f : Addr} {fd : FuncData} (B : Bt mg) (T : Xt K mg C) (F : FnP K "_law_meant" (top 64) f fd) (g : mg "_law_meant" = some (.ref f)) : Fk P w K mg base CX0 1 "_law_meant" (spOf K (fs_law_meant C)) := by
  refine Fk.of (FunD.ok F sc_law_meant (spOf_len (n := 2) fun _ => rfl) fun cdv A outer s H vs Q E hr h => ⟨t_law_meant K C E, PSs.nox ?_, pr_law_meant h⟩) g F.kp (FunD.bindsN F fun _ _ _ _ _ _ us hl => match us, hl with | [_, _], _ => rfl)
  have hu := hu_of hr
  exact (pss_cons (ps_if (pt_val (pe_callB call_isi (by rfl) B.k_isinstance b_isinstance (pa_cons (pv 0) (pa_cons (pe_bltn rfl B.k_tuple b_tuple rfl) pa_nil))))
    (pss_one (ps_ret (pe_ix ix_seq (pv 1) (pe_ix ix_seq (pv 0) pe_int (fun _ _ => rfl)) (fun _ _ => rfl))))
    pss_nil)
    (pss_one (ps_ret (pv 0))))
theorem sc_law_asked : FnScope n_law_asked ["_law_deed", "_law_roots", "_law_things"] (defScope (top 65)) := ⟨rfl, rfl, rfl, by decide +kernel, rfl, by decide +kernel, by decide +kernel⟩
theorem ok_law_asked {P : Program} {w : World} {K : PySem.W.Frag} {mg : Str → Option Value} {base : Heap} {C : Exs} {f : Addr} {fd : FuncData} (B : Bt mg) (T : Xt K mg C) (F : FnP K "_law_asked" (top 65) f fd) (g : mg "_law_asked" = some (.ref f)) : Fk P w K mg base CX0 1 "_law_asked" (spOf K (fs_law_asked C)) := by
  refine Fk.of (FunD.ok F sc_law_asked (spOf_len (n := 3) fun _ => rfl) fun cdv A outer s H vs Q E hr h => ⟨t_law_asked K C E, PSs.nox ?_, pr_law_asked h⟩) g F.kp (FunD.bindsN F fun _ _ _ _ _ _ us hl => match us, hl with | [_, _, _], _ => rfl)
  have hu := hu_of hr
  exact (pss_cons (ps_set (i := 3) sc_law_asked.nd rfl (by first | exact Or.inl rfl | exact Or.inr rfl) (pe_ix ix_seq (pv 1) (pe_ix ix_seq (pv 0) pe_int (fun _ _ => rfl)) (fun _ _ => rfl)))
    (pss_cons (ps_if (pt_cmpR (op_eqD hr.units) (pe_ix ix_seq (pv 0) pe_int (fun _ _ => rfl)) pe_str (nomark _))
    (pss_one (ps_ret (pe_and (pe_callB call_isi (by rfl) B.k_isinstance b_isinstance (pa_cons (pv 3) (pa_cons (pe_bltn rfl B.k_tuple b_tuple rfl) pa_nil))) (pe_one (pe_cmpR (op_eqD hr.units) (pv 3) (pe_ix ix_seq (pv 1) (pe_ix ix_seq (pv 0) pe_int (fun _ _ => rfl)) (fun _ _ => rfl)) (nomark _))))))
    pss_nil)
    (pss_cons (ps_if (pt_val (pe_callB call_isi (by rfl) B.k_isinstance b_isinstance (pa_cons (pv 3) (pa_cons (pe_bltn rfl B.k_tuple b_tuple rfl) pa_nil))))
    (pss_one (ps_ret (pe_tup (pa_cons pe_str (pa_cons (pe_callB call_lenS (by rfl) B.k_len b_len (pa_cons (pe_ix ix_seq (pv 2) (pe_ix ix_seq (pv 3) pe_int (fun _ _ => rfl)) (fun _ _ => rfl)) pa_nil)) pa_nil)))))
    pss_nil)
    (pss_one (ps_ret (pv 3))))))
theorem sc_law_room_by : FnScope n_law_room_by ["_law_cell"] (defScope (top 68)) := ⟨rfl, rfl, rfl, by decide +kernel, rfl, by decide +kernel, by decide +kernel⟩
theorem ok_law_room_by {P : Program} {w : World} {K : PySem.W.Frag} {mg : Str → Option Value} {base : Heap} {C : Exs} {f : Addr} {fd : FuncData} (B : Bt mg) (T : Xt K mg C) (F : FnP K "_law_room_by" (top 68) f fd) (g : mg "_law_room_by" = some (.ref f)) : Fk P w K mg base CX0 1 "_law_room_by" (spOf K (fs_law_room_by C)) := by
  refine Fk.of (FunD.ok F sc_law_room_by (spOf_len (n := 1) fun _ => rfl) fun cdv A outer s H vs Q E hr h => ⟨t_law_room_by K C E, PSs.nox ?_, pr_law_room_by h⟩) g F.kp (FunD.bindsN F fun _ _ _ _ _ _ us hl => match us, hl with | [_], _ => rfl)
  have hu := hu_of hr
  exact (pss_cons (ps_if (pt_cmpR (op_eqD hr.units) (pe_op op_modu (pv 0) pe_int) pe_int (nomark _))
    (pss_one (ps_ret (pe_op op_modu (pe_op op_floor (pv 0) pe_int) pe_int)))
    pss_nil)
    (pss_cons (ps_if (pt_cmpR (op_eqD hr.units) (pe_op op_modu (pv 0) pe_int) pe_int (nomark _))
    (pss_one (ps_ret (pe_op op_plus pe_int (pe_op op_modu (pe_op op_floor (pv 0) pe_int) pe_int))))
    pss_nil)
    (pss_cons (ps_if (pt_cmpR (op_eqD hr.units) (pe_op op_modu (pv 0) pe_int) pe_int (nomark _))
    (pss_one (ps_ret (pe_op op_modu (pe_op op_modu (pe_op op_times (pv 0) pe_int) pe_int) pe_int)))
    pss_nil)
    (pss_one (ps_ret (pe_op op_modu (pv 0) (pe_op op_power pe_int pe_int)))))))
theorem sc_leads_young : FnScope n_leads_young ["value"] (defScope (top 7)) := ⟨rfl, rfl, rfl, by decide +kernel, rfl, by decide +kernel, by decide +kernel⟩
theorem ok_leads_young {P : Program} {w : World} {K : PySem.W.Frag} {mg : Str → Option Value} {base : Heap} {C : Exs} {f : Addr} {fd : FuncData} (B : Bt mg) (T : Xt K mg C) (F : FnP K "leads_young" (top 7) f fd) (g : mg "leads_young" = some (.ref f)) (c_is_pointer : Fk P w K mg base CX0 1 "is_pointer" (spOf K (fs_is_pointer C))) : Fk P w K mg base CX0 2 "leads_young" (spOf K (fs_leads_young C)) := by
  refine Fk.of (FunD.ok F sc_leads_young (spOf_len (n := 1) fun _ => rfl) fun cdv A outer s H vs Q E hr h => ⟨t_leads_young K C E, PSs.nox ?_, pr_leads_young h⟩) g F.kp (FunD.bindsN F fun _ _ _ _ _ _ us hl => match us, hl with | [_], _ => rfl)
  have hu := hu_of hr
  exact (pss_one (ps_ret (pe_and (pe_callF c_is_pointer (hr.mono (by decide)) pass0 (pa_cons (pv 0) pa_nil)) (pe_one (pe_cmpR (op_eqD hr.units) (pe_ix ix_seq (pv 0) pe_int (fun _ _ => rfl)) pe_str (nomark _))))))
theorem sc_moved : FnScope n_moved ["value", "places"] (defScope (top 8)) := ⟨rfl, rfl, rfl, by decide +kernel, rfl, by decide +kernel, by decide +kernel⟩
theorem ok_moved {P : Program} {w : World} {K : PySem.W.Frag} {mg : Str → Option Value} {base : Heap} {C : Exs} {f : Addr} {fd : FuncData} (B : Bt mg) (T : Xt K mg C) (F : FnP K "moved" (top 8) f fd) (g : mg "moved" = some (.ref f)) (c_is_pointer : Fk P w K mg base CX0 1 "is_pointer" (spOf K (fs_is_pointer C))) : Fk P w K mg base CX0 2 "moved" (spOf K (fs_moved C)) := by
  refine Fk.of (FunD.ok F sc_moved (spOf_len (n := 2) fun _ => rfl) fun cdv A outer s H vs Q E hr h => ⟨t_moved K C E, PSs.nox ?_, pr_moved h⟩) g F.kp (FunD.bindsN F fun _ _ _ _ _ _ us hl => match us, hl with | [_, _], _ => rfl)
  have hu := hu_of hr
  exact (pss_cons (ps_if (pt_val (pe_callF c_is_pointer (hr.mono (by decide)) pass0 (pa_cons (pv 0) pa_nil)))
    (pss_one (ps_ret (pe_dgetA hu (pv 1) (pv 0) (pv 0) ⟨rfl, rfl, rfl, rfl⟩)))
    pss_nil)
    (pss_one (ps_ret (pv 0))))
theorem sc_leads : FnScope n_leads ["heap", "pointer"] (defScope (top 18)) := ⟨rfl, rfl, rfl, by decide +kernel, rfl, by decide +kernel, by decide +kernel⟩
theorem ok_leads {P : Program} {w : World} {K : PySem.W.Frag} {mg : Str → Option Value} {base : Heap} {C : Exs} {f : Addr} {fd : FuncData} (B : Bt mg) (T : Xt K mg C) (F : FnP K "leads" (top 18) f fd) (g : mg "leads" = some (.ref f)) (c_half_of : Fk P w K mg base CX0 1 "half_of" (spOf K (fs_half_of C))) : Fk P w K mg base CX0 2 "leads" (spOf K (fs_leads C)) := by
  refine Fk.of (FunD.ok F sc_leads (spOf_len (n := 2) fun _ => rfl) fun cdv A outer s H vs Q E hr h => ⟨t_leads K C E, PSs.nox ?_, pr_leads h⟩) g F.kp (FunD.bindsN F fun _ _ _ _ _ _ us hl => match us, hl with | [_, _], _ => rfl)
  have hu := hu_of hr
  exact (pss_one (ps_ret (pe_chain op_leq op_less pe_int (pe_ix ix_seq (pv 1) pe_int (fun _ _ => rfl)) (pe_callB call_lenS (by rfl) B.k_len b_len (pa_cons (pe_callF c_half_of (hr.mono (by decide)) pass0 (pa_cons (pv 0) (pa_cons (pv 1) pa_nil))) pa_nil)))))
theorem sc_meet_all : FnScope n_meet_all ["row", "seen", "waiting"] (defScope (top 28)) := ⟨rfl, rfl, rfl, by decide +kernel, rfl, by decide +kernel, by decide +kernel⟩
theorem ok_meet_all {P : Program} {w : World} {K : PySem.W.Frag} {mg : Str → Option Value} {base : Heap} {C : Exs} {f : Addr} {fd : FuncData} (B : Bt mg) (T : Xt K mg C) (F : FnP K "meet_all" (top 28) f fd) (g : mg "meet_all" = some (.ref f)) (c_is_pointer : Fk P w K mg base CX0 1 "is_pointer" (spOf K (fs_is_pointer C))) : Fk P w K mg base CX0 2 "meet_all" (spOf K (fs_meet_all C)) := by
  refine Fk.of (FunD.ok F sc_meet_all (spOf_len (n := 3) fun _ => rfl) fun cdv A outer s H vs Q E hr h => ⟨t_meet_all K C E, PSs.nox ?_, pr_meet_all h⟩) g F.kp (FunD.bindsN F fun _ _ _ _ _ _ us hl => match us, hl with | [_, _, _], _ => rfl)
  have hu := hu_of hr
  exact (pss_one (ps_for PassesOwn.never rfl (pi_seq (pv 0)) (pg_name (i := 3) sc_meet_all.nd rfl (by first | exact Or.inl rfl | exact Or.inr rfl))
    (pss_one (ps_if (PW.pt (pw_and (pt_val (pe_callF c_is_pointer (hr.mono (by decide)) pass0 (pa_cons (pv 3) pa_nil))) (pw_and1 (pt_cmp (pc_dnotin hu (pv 3) (pv 1))))))
    (pss_cons (ps_dput hu (pv 1) (pv 3) pe_bl rfl)
    (pss_one (ps_expr (pe_bm PySem.F.plainAttrs_list PySem.F.slot_list_append PySem.F.type_list_append mt_append (pv 2) (pa_cons (pv 3) pa_nil)))))
    pss_nil))))
theorem sc_part_of : FnScope n_part_of ["heap", "part"] (defScope (top 41)) := ⟨rfl, rfl, rfl, by decide +kernel, rfl, by decide +kernel, by decide +kernel⟩
theorem ok_part_of {P : Program} {w : World} {K : PySem.W.Frag} {mg : Str → Option Value} {base : Heap} {C : Exs} {f : Addr} {fd : FuncData} (B : Bt mg) (T : Xt K mg C) (F : FnP K "part_of" (top 41) f fd) (g : mg "part_of" = some (.ref f)) (c_is_pointer : Fk P w K mg base CX0 1 "is_pointer" (spOf K (fs_is_pointer C))) (c_root_of : Fk P w K mg base (L2.CX P w) 1 "root_of" (spOf K (fs_root_of C))) : Fk P w K mg base (L2.CX P w) 2 "part_of" (spOf K (fs_part_of C)) := by
  refine Fk.of (FunD.ok F sc_part_of (spOf_len (n := 2) fun _ => rfl) fun cdv A outer s H vs Q E hr h => ⟨t_part_of K C E, id ?_, pr_part_of h⟩) g F.kp (FunD.bindsN F fun _ _ _ _ _ _ us hl => match us, hl with | [_, _], _ => rfl)
  have hu := hu_of hr
  exact (pss_cons (ps_if (pt_val (pe_callF c_is_pointer (hr.mono (by decide)) pass0 (pa_cons (pv 1) pa_nil)))
    (pss_one (ps_ret (pe_callF c_root_of (hr.mono (by decide)) (passes_call (takes_of rfl rfl rfl rfl) fun _ _ _ _ h => h) (pa_cons (pv 0) (pa_cons (pe_ix ix_seq (pv 1) pe_int (fun _ _ => rfl)) pa_nil)))))
    pss_nil)
    (pss_one (ps_ret (pv 1))))
theorem sc_law_alike : FnScope n_law_alike ["_law_found", "_law_due"] (defScope (top 49)) := ⟨rfl, rfl, rfl, by decide +kernel, rfl, by decide +kernel, by decide +kernel⟩
theorem ok_law_alike {P : Program} {w : World} {K : PySem.W.Frag} {mg : Str → Option Value} {base : Heap} {C : Exs} {f : Addr} {fd : FuncData} (B : Bt mg) (T : Xt K mg C) (F : FnP K "_law_alike" (top 49) f fd) (g : mg "_law_alike" = some (.ref f)) (c_law_whole : Fk P w K mg base CX0 1 "_law_whole" (spOf K (fs_law_whole C))) : Fk P w K mg base CX0 2 "_law_alike" (spOf K (fs_law_alike C)) := by
  refine Fk.of (FunD.ok F sc_law_alike (spOf_len (n := 2) fun _ => rfl) fun cdv A outer s H vs Q E hr h => ⟨t_law_alike K C E, PSs.nox ?_, pr_law_alike h⟩) g F.kp (FunD.bindsN F fun _ _ _ _ _ _ us hl => match us, hl with | [_, _], _ => rfl)
  have hu := hu_of hr
  exact (pss_cons (ps_if (pt_cmpR op_isN' (pv 1) pe_non (nomark _))
    (pss_one (ps_ret (pe_cmpR op_isN' (pv 0) pe_non (nomark _))))
    pss_nil)
    (pss_cons (ps_if (pt_not (pt_val (pe_callB call_isi (by rfl) B.k_isinstance b_isinstance (pa_cons (pv 1) (pa_cons (pe_bltn rfl B.k_tuple b_tuple rfl) pa_nil)))))
    (pss_one (ps_ret (pe_and (pe_callF c_law_whole (hr.mono (by decide)) pass0 (pa_cons (pv 0) pa_nil)) (pe_one (pe_cmpR (op_eqD hr.units) (pv 0) (pv 1) (nomark _))))))
    pss_nil)
    (pss_cons (ps_if (PW.pt (pw_or (pt_not (pt_val (pe_callB call_isi (by rfl) B.k_isinstance b_isinstance (pa_cons (pv 0) (pa_cons (pe_bltn rfl B.k_tuple b_tuple rfl) pa_nil))))) (pw_or (pt_cmpR (op_neD hr.units) (pe_callB call_lenS (by rfl) B.k_len b_len (pa_cons (pv 0) pa_nil)) pe_int (nomark _)) (pw_or1 (pt_not (pt_val (pe_callB call_isi (by rfl) B.k_isinstance b_isinstance (pa_cons (pe_ix ix_seq (pv 0) pe_int (fun _ _ => rfl)) (pa_cons (pe_bltn rfl B.k_str b_str rfl) pa_nil)))))))))
    (pss_one (ps_ret pe_bl))
    pss_nil)
    (pss_one (ps_ret (pe_and (pe_callF c_law_whole (hr.mono (by decide)) pass0 (pa_cons (pe_ix ix_seq (pv 0) pe_int (fun _ _ => rfl)) pa_nil)) (pe_one (pe_cmpR (op_eqD hr.units) (pv 0) (pv 1) (nomark _)))))))))
theorem sc_law_book_alike : FnScope n_law_book_alike ["_law_found", "_law_due"] (defScope (top 50)) := ⟨rfl, rfl, rfl, by decide +kernel, rfl, by decide +kernel, by decide +kernel⟩
theorem ok_law_book_alike {P : Program} {w : World} {K : PySem.W.Frag} {mg : Str → Option Value} {base : Heap} {C : Exs} {f : Addr} {fd : FuncData} (B : Bt mg) (T : Xt K mg C) (F : FnP K "_law_book_alike" (top 50) f fd) (g : mg "_law_book_alike" = some (.ref f)) (c_law_whole : Fk P w K mg base CX0 1 "_law_whole" (spOf K (fs_law_whole C))) : Fk P w K mg base CX0 2 "_law_book_alike" (spOf K (fs_law_book_alike C)) := by
  refine Fk.of (FunD.ok F sc_law_book_alike (spOf_len (n := 2) fun _ => rfl) fun cdv A outer s H vs Q E hr h => ⟨t_law_book_alike K C E, PSs.nox ?_, pr_law_book_alike h⟩) g F.kp (FunD.bindsN F fun _ _ _ _ _ _ us hl => match us, hl with | [_, _], _ => rfl)
  have hu := hu_of hr
  exact (pss_cons (ps_if (PW.pt (pw_or (pt_not (pt_val (pe_callB call_isi (by rfl) B.k_isinstance b_isinstance (pa_cons (pv 0) (pa_cons (pe_bltn rfl B.k_tuple b_tuple rfl) pa_nil))))) (pw_or1 (pt_cmpR (op_neD hr.units) (pe_callB call_lenS (by rfl) B.k_len b_len (pa_cons (pv 0) pa_nil)) (pe_callB call_lenS (by rfl) B.k_len b_len (pa_cons (pv 1) pa_nil)) (nomark _)))))
    (pss_one (ps_ret pe_bl))
    pss_nil)
    (pss_cons (ps_for PassesOwn.never rfl (pi_range1 (by rfl) B.k_range (pa_cons (pe_callB call_lenS (by rfl) B.k_len b_len (pa_cons (pv 1) pa_nil)) pa_nil)) (pg_name (i := 2) sc_law_book_alike.nd rfl (by first | exact Or.inl rfl | exact Or.inr rfl))
    (pss_cons (ps_if (PW.pt (pw_or (pt_not (pt_val (pe_callB call_isi (by rfl) B.k_isinstance b_isinstance (pa_cons (pe_ix ix_seq (pv 0) (pv 2) (fun _ _ => rfl)) (pa_cons (pe_bltn rfl B.k_tuple b_tuple rfl) pa_nil))))) (pw_or1 (pt_cmpR (op_neD hr.units) (pe_callB call_lenS (by rfl) B.k_len b_len (pa_cons (pe_ix ix_seq (pv 0) (pv 2) (fun _ _ => rfl)) pa_nil)) pe_int (nomark _)))))
    (pss_one (ps_ret pe_bl))
    pss_nil)
    (pss_cons (ps_if (PW.pt (pw_or (pt_not (pt_val (pe_callF c_law_whole (hr.mono (by decide)) pass0 (pa_cons (pe_ix ix_seq (pe_ix ix_seq (pv 0) (pv 2) (fun _ _ => rfl)) pe_int (fun _ _ => rfl)) pa_nil)))) (pw_or1 (pt_not (pt_val (pe_callF c_law_whole (hr.mono (by decide)) pass0 (pa_cons (pe_ix ix_seq (pe_ix ix_seq (pv 0) (pv 2) (fun _ _ => rfl)) pe_int (fun _ _ => rfl)) pa_nil)))))))
    (pss_one (ps_ret pe_bl))
    pss_nil)
    (pss_one (ps_if (pt_cmpR (op_neD hr.units) (pe_ix ix_seq (pv 0) (pv 2) (fun _ _ => rfl)) (pe_ix ix_seq (pv 1) (pv 2) (fun _ _ => rfl)) (nomark _))
    (pss_one (ps_ret pe_bl))
    pss_nil)))))
    (pss_one (ps_ret pe_bl))))
theorem sc_law_right : FnScope n_law_right ["_law_after"] (defScope (top 54)) := ⟨rfl, rfl, rfl, by decide +kernel, rfl, by decide +kernel, by decide +kernel⟩
theorem ok_law_right {P : Program} {w : World} {K : PySem.W.Frag} {mg : Str → Option Value} {base : Heap} {C : Exs} {f : Addr} {fd : FuncData} (B : Bt mg) (T : Xt K mg C) (F : FnP K "_law_right" (top 54) f fd) (g : mg "_law_right" = some (.ref f)) (c_law_whole : Fk P w K mg base CX0 1 "_law_whole" (spOf K (fs_law_whole C))) : Fk P w K mg base CX0 2 "_law_right" (spOf K (fs_law_right C)) := by
  refine Fk.of (FunD.ok F sc_law_right (spOf_len (n := 1) fun _ => rfl) fun cdv A outer s H vs Q E hr h => ⟨t_law_right K C E, PSs.nox ?_, pr_law_right h⟩) g F.kp (FunD.bindsN F fun _ _ _ _ _ _ us hl => match us, hl with | [_], _ => rfl)
  have hu := hu_of hr
  exact (pss_cons (ps_if (PW.pt (pw_or (pt_not (pt_val (pe_callB call_isi (by rfl) B.k_isinstance b_isinstance (pa_cons (pv 0) (pa_cons (pe_bltn rfl B.k_tuple b_tuple rfl) pa_nil))))) (pw_or1 (pt_cmpR (op_neD hr.units) (pe_callB call_lenS (by rfl) B.k_len b_len (pa_cons (pv 0) pa_nil)) pe_int (nomark _)))))
    (pss_one (ps_ret pe_bl))
    pss_nil)
    (pss_cons (ps_for PassesOwn.never rfl (pi_seq (pv 0)) (pg_name (i := 1) sc_law_right.nd rfl (by first | exact Or.inl rfl | exact Or.inr rfl))
    (pss_one (ps_if (pt_not (pt_val (pe_callB call_isi (by rfl) B.k_isinstance b_isinstance (pa_cons (pv 1) (pa_cons (pe_bltn rfl B.k_tuple b_tuple rfl) pa_nil)))))
    (pss_one (ps_ret pe_bl))
    pss_nil)))
    (pss_cons (ps_for PassesOwn.never rfl (pi_seq (pe_lst (pa_cons (pe_ix ix_seq (pv 0) pe_int (fun _ _ => rfl)) (pa_cons (pe_ix ix_seq (pv 0) pe_int (fun _ _ => rfl)) pa_nil)))) (pg_name (i := 2) sc_law_right.nd rfl (by first | exact Or.inl rfl | exact Or.inr rfl))
    (pss_one (ps_for PassesOwn.never rfl (pi_seq (pv 2)) (pg_name (i := 3) sc_law_right.nd rfl (by first | exact Or.inl rfl | exact Or.inr rfl))
    (pss_cons (ps_if (PW.pt (pw_or (pt_not (pt_val (pe_callB call_isi (by rfl) B.k_isinstance b_isinstance (pa_cons (pv 3) (pa_cons (pe_bltn rfl B.k_tuple b_tuple rfl) pa_nil))))) (pw_or1 (pt_cmpR (op_neD hr.units) (pe_callB call_lenS (by rfl) B.k_len b_len (pa_cons (pv 3) pa_nil)) pe_int (nomark _)))))
    (pss_one (ps_ret pe_bl))
    pss_nil)
    (pss_one (ps_if (PW.pt (pw_or (pt_not (pt_val (pe_callF c_law_whole (hr.mono (by decide)) pass0 (pa_cons (pe_ix ix_seq (pv 3) pe_int (fun _ _ => rfl)) pa_nil)))) (pw_or1 (pt_not (pt_val (pe_callB call_isi (by rfl) B.k_isinstance b_isinstance (pa_cons (pe_ix ix_seq (pv 3) pe_int (fun _ _ => rfl)) (pa_cons (pe_bltn rfl B.k_tuple b_tuple rfl) pa_nil))))))))
    (pss_one (ps_ret pe_bl))
    pss_nil))))))
    (pss_one (ps_ret pe_bl)))))
theorem sc_law_make_parts : FnScope n_law_make_parts ["_law_rest", "_law_far", "_law_k", "_law_many", "_law_size"] (defScope (top 61)) := ⟨rfl, rfl, rfl, by decide +kernel, rfl, by decide +kernel, by decide +kernel⟩
theorem ok_law_make_parts {P : Program} {w : World} {K : PySem.W.Frag} {mg : Str → Option Value} {base : Heap} {C : Exs} {f : Addr} {fd : FuncData} (B : Bt mg) (T : Xt K mg C) (F : FnP K "_law_make_parts" (top 61) f fd) (g : mg "_law_make_parts" = some (.ref f)) (c_law_part_by : Fk P w K mg base CX0 1 "_law_part_by" (spOf K (fs_law_part_by C))) : Fk P w K mg base CX0 2 "_law_make_parts" (spOf K (fs_law_make_parts C)) := by
  refine Fk.of (FunD.ok F sc_law_make_parts (spOf_len (n := 5) fun _ => rfl) fun cdv A outer s H vs Q E hr h => ⟨t_law_make_parts K C E, PSs.nox ?_, pr_law_make_parts h⟩) g F.kp (FunD.bindsN F fun _ _ _ _ _ _ us hl => match us, hl with | [_, _, _, _, _], _ => rfl)
  have hu := hu_of hr
  exact (pss_cons (ps_set (i := 5) sc_law_make_parts.nd rfl (by first | exact Or.inl rfl | exact Or.inr rfl) (pe_lst pa_nil))
    (pss_cons (ps_for PassesOwn.never rfl (pi_range1 (by rfl) B.k_range (pa_cons (pv 4) pa_nil)) (pg_name (i := 8) sc_law_make_parts.nd rfl (by first | exact Or.inl rfl | exact Or.inr rfl))
    (pss_cons (ps_set (i := 6) sc_law_make_parts.nd rfl (by first | exact Or.inl rfl | exact Or.inr rfl) (pe_op op_modu (pe_op op_times (pe_op op_plus (pv 0) (pe_op op_times pe_int (pv 8))) pe_int) pe_int))
    (pss_cons (ps_set (i := 6) sc_law_make_parts.nd rfl (by first | exact Or.inl rfl | exact Or.inr rfl) (pe_op op_modu (pe_op op_times (pv 6) (pv 6)) pe_int))
    (pss_cons (ps_set (i := 7) sc_law_make_parts.nd rfl (by first | exact Or.inl rfl | exact Or.inr rfl) (pe_callF c_law_part_by (hr.mono (by decide)) pass0 (pa_cons (pe_op op_modu (pv 6) pe_int) (pa_cons (pe_op op_plus (pv 1) (pv 8)) (pa_cons (pv 2) (pa_cons (pv 3) pa_nil))))))
    (pss_cons (ps_if (PW.pt (pw_and (pt_val (pe_callB call_isi (by rfl) B.k_isinstance b_isinstance (pa_cons (pv 7) (pa_cons (pe_bltn rfl B.k_tuple b_tuple rfl) pa_nil)))) (pw_and (pt_cmpR op_more (pv 3) pe_int (nomark _)) (pw_and1 (pt_cmpR (op_eqD hr.units) (pe_op op_modu (pe_op op_floor (pv 6) pe_int) pe_int) pe_int (nomark _))))))
    (pss_one (ps_set (i := 7) sc_law_make_parts.nd rfl (by first | exact Or.inl rfl | exact Or.inr rfl) (pe_tup (pa_cons pe_str (pa_cons (pe_op op_modu (pe_op op_floor (pv 6) pe_int) (pv 3)) pa_nil)))))
    pss_nil)
    (pss_cons (ps_if (PW.pt (pw_and (pt_cmpR (op_eqD hr.units) (pe_op op_modu (pe_op op_floor (pv 0) pe_int) pe_int) pe_int (nomark _)) (pw_and1 (pt_cmpR (op_eqD hr.units) (pv 8) (pe_op op_modu (pe_op op_floor (pv 0) pe_int) (pv 4)) (nomark _)))))
    (pss_one (ps_set (i := 7) sc_law_make_parts.nd rfl (by first | exact Or.inl rfl | exact Or.inr rfl) (pe_callF c_law_part_by (hr.mono (by decide)) pass0 (pa_cons pe_int (pa_cons (pv 1) (pa_cons (pv 2) (pa_cons (pv 3) pa_nil)))))))
    pss_nil)
    (pss_one (ps_expr (pe_bm PySem.F.plainAttrs_list PySem.F.slot_list_append PySem.F.type_list_append mt_append (pv 5) (pa_cons (pv 7) pa_nil))))))))))
    (pss_one (ps_ret (pe_callTy call_tupS (by rfl) B.k_tuple b_tuple (pa_cons (pv 5) pa_nil))))))
theorem sc_law_answer : FnScope n_law_answer ["_law_deed", "_law_roots", "_law_things"] (defScope (top 66)) := ⟨rfl, rfl, rfl, by decide +kernel, rfl, by decide +kernel, by decide +kernel⟩
theorem ok_law_answer {P : Program} {w : World} {K : PySem.W.Frag} {mg : Str → Option Value} {base : Heap} {C : Exs} {f : Addr} {fd : FuncData} (B : Bt mg) (T : Xt K mg C) (F : FnP K "_law_answer" (top 66) f fd) (g : mg "_law_answer" = some (.ref f)) (c_law_asked : Fk P w K mg base CX0 1 "_law_asked" (spOf K (fs_law_asked C))) (c_law_meant : Fk P w K mg base CX0 1 "_law_meant" (spOf K (fs_law_meant C))) (c_law_roots_in : Fk P w K mg base CX0 1 "_law_roots_in" (spOf K (fs_law_roots_in C))) : Fk P w K mg base CX0 2 "_law_answer" (spOf K (fs_law_answer C)) := by
  refine Fk.of (FunD.ok F sc_law_answer (spOf_len (n := 3) fun _ => rfl) fun cdv A outer s H vs Q E hr h => ⟨t_law_answer K C E, PSs.nox ?_, pr_law_answer h⟩) g F.kp (FunD.bindsN F fun _ _ _ _ _ _ us hl => match us, hl with | [_, _, _], _ => rfl)
  have hu := hu_of hr
  exact (pss_cons (ps_for PassesOwn.never rfl (pi_seq (pe_callF c_law_roots_in (hr.mono (by decide)) pass0 (pa_cons (pv 0) pa_nil))) (pg_name (i := 5) sc_law_answer.nd rfl (by first | exact Or.inl rfl | exact Or.inr rfl))
    (pss_one (ps_if (PW.pt (pw_or (pt_cmpR op_less (pv 5) pe_int (nomark _)) (pw_or1 (pt_cmpR op_geq (pv 5) (pe_callB call_lenS (by rfl) B.k_len b_len (pa_cons (pv 1) pa_nil)) (nomark _)))))
    (pss_one (ps_ret pe_str))
    pss_nil)))
    (pss_cons (ps_if (PW.pt (pw_or (pt_cmpR (op_eqD hr.units) (pe_ix ix_seq (pv 0) pe_int (fun _ _ => rfl)) pe_str (nomark _)) (pw_or1 (pt_cmpR (op_eqD hr.units) (pe_ix ix_seq (pv 0) pe_int (fun _ _ => rfl)) pe_str (nomark _)))))
    (pss_one (ps_ret (pe_callF c_law_asked (hr.mono (by decide)) pass0 (pa_cons (pv 0) (pa_cons (pv 1) (pa_cons (pv 2) pa_nil))))))
    pss_nil)
    (pss_cons (ps_if (pt_cmpR (op_eqD hr.units) (pe_ix ix_seq (pv 0) pe_int (fun _ _ => rfl)) pe_str (nomark _))
    (pss_cons (ps_expr (pe_bm PySem.F.plainAttrs_list PySem.F.slot_list_append PySem.F.type_list_append mt_append (pv 2) (pa_cons (pe_lc (own := [("_law_part", 6)]) (g := gName 6) (tt := tYes) rfl sc_law_answer.nd (pi_seq (pe_ix ix_seq (pv 0) pe_int (fun _ _ => rfl))) (blkOk_by (N := n_law_answer) (sc := defScope (top 66)) (by decide +kernel)) (fun _ _ _ _ _ => pg_name (i := 6) sc_law_answer.nd rfl (Or.inl rfl)) (fun _ _ _ _ _ => pts_nil) (fun _ _ _ _ _ => (pe_callF c_law_meant (hr.mono (by decide)) pass0 (pa_cons (pv 6) (pa_cons (pv 1) pa_nil))))) pa_nil)))
    (pss_one (ps_asg (pe_tup (pa_cons pe_str (pa_cons (pe_op op_minus (pe_callB call_lenS (by rfl) B.k_len b_len (pa_cons (pv 2) pa_nil)) pe_int) pa_nil))) (pg_sub (pv 1) (pe_ix ix_seq (pv 0) pe_int (fun _ _ => rfl)) set_list))))
    pss_nil)
    (pss_cons (ps_if (pt_cmpR (op_eqD hr.units) (pe_ix ix_seq (pv 0) pe_int (fun _ _ => rfl)) pe_str (nomark _))
    (pss_one (ps_asg (pe_callF c_law_meant (hr.mono (by decide)) pass0 (pa_cons (pe_ix ix_seq (pv 0) pe_int (fun _ _ => rfl)) (pa_cons (pv 1) pa_nil))) (pg_sub (pv 1) (pe_ix ix_seq (pv 0) pe_int (fun _ _ => rfl)) set_list)))
    pss_nil)
    (pss_cons (ps_if (PW.pt (pw_or (pt_cmpR (op_eqD hr.units) (pe_ix ix_seq (pv 0) pe_int (fun _ _ => rfl)) pe_str (nomark _)) (pw_or1 (pt_cmpR (op_eqD hr.units) (pe_ix ix_seq (pv 0) pe_int (fun _ _ => rfl)) pe_str (nomark _)))))
    (pss_cons (ps_set (i := 3) sc_law_answer.nd rfl (by first | exact Or.inl rfl | exact Or.inr rfl) (pe_ix ix_seq (pv 1) (pe_ix ix_seq (pv 0) (pe_op op_plus pe_int (pe_callTy call_int (by rfl) B.k_int b_int (pa_cons (pe_cmpR (op_eqD hr.units) (pe_ix ix_seq (pv 0) pe_int (fun _ _ => rfl)) pe_str (nomark _)) pa_nil))) (fun _ _ => rfl)) (fun _ _ => rfl)))
    (pss_cons (ps_set (i := 4) sc_law_answer.nd rfl (by first | exact Or.inl rfl | exact Or.inr rfl) (pe_ix ix_seq (pv 0) (pe_op op_plus pe_int (pe_callTy call_int (by rfl) B.k_int b_int (pa_cons (pe_cmpR (op_eqD hr.units) (pe_ix ix_seq (pv 0) pe_int (fun _ _ => rfl)) pe_str (nomark _)) pa_nil))) (fun _ _ => rfl)))
    (pss_cons (ps_if (pt_not (pt_val (pe_callB call_isi (by rfl) B.k_isinstance b_isinstance (pa_cons (pv 3) (pa_cons (pe_bltn rfl B.k_tuple b_tuple rfl) pa_nil)))))
    (pss_one (ps_ret pe_str))
    pss_nil)
    (pss_cons (ps_if (PW.pt (pw_or (pt_cmpR op_less (pv 4) pe_int (nomark _)) (pw_or1 (pt_cmpR op_geq (pv 4) (pe_callB call_lenS (by rfl) B.k_len b_len (pa_cons (pe_ix ix_seq (pv 2) (pe_ix ix_seq (pv 3) pe_int (fun _ _ => rfl)) (fun _ _ => rfl)) pa_nil)) (nomark _)))))
    (pss_one (ps_ret pe_str))
    pss_nil)
    (pss_one (ps_if (pt_cmpR (op_eqD hr.units) (pe_ix ix_seq (pv 0) pe_int (fun _ _ => rfl)) pe_str (nomark _))
    (pss_one (ps_asg (pe_callF c_law_meant (hr.mono (by decide)) pass0 (pa_cons (pe_ix ix_seq (pv 0) pe_int (fun _ _ => rfl)) (pa_cons (pv 1) pa_nil))) (pg_sub (pe_ix ix_seq (pv 2) (pe_ix ix_seq (pv 3) pe_int (fun _ _ => rfl)) (fun _ _ => rfl)) (pv 4) set_list)))
    (pss_one (ps_asg (pe_ix ix_seq (pe_ix ix_seq (pv 2) (pe_ix ix_seq (pv 3) pe_int (fun _ _ => rfl)) (fun _ _ => rfl)) (pv 4) (fun _ _ => rfl)) (pg_sub (pv 1) (pe_ix ix_seq (pv 0) pe_int (fun _ _ => rfl)) set_list)))))))))
    pss_nil)
    (pss_one (ps_ret pe_str)))))))
theorem sc_moved_row : FnScope n_moved_row ["row", "places"] (defScope (top 9)) := ⟨rfl, rfl, rfl, by decide +kernel, rfl, by decide +kernel, by decide +kernel⟩
theorem ok_moved_row {P : Program} {w : World} {K : PySem.W.Frag} {mg : Str → Option Value} {base : Heap} {C : Exs} {f : Addr} {fd : FuncData} (B : Bt mg) (T : Xt K mg C) (F : FnP K "moved_row" (top 9) f fd) (g : mg "moved_row" = some (.ref f)) (c_moved : Fk P w K mg base CX0 2 "moved" (spOf K (fs_moved C))) : Fk P w K mg base CX0 3 "moved_row" (spOf K (fs_moved_row C)) := by
  refine Fk.of (FunD.ok F sc_moved_row (spOf_len (n := 2) fun _ => rfl) fun cdv A outer s H vs Q E hr h => ⟨t_moved_row K C E, PSs.nox ?_, pr_moved_row h⟩) g F.kp (FunD.bindsN F fun _ _ _ _ _ _ us hl => match us, hl with | [_, _], _ => rfl)
  have hu := hu_of hr
  exact (pss_one (ps_ret (pe_callTy call_tupS (by rfl) B.k_tuple b_tuple (pa_cons (pe_lc (own := [("value", 2)]) (g := gName 2) (tt := tYes) rfl sc_moved_row.nd (pi_seq (pv 0)) (blkOk_by (N := n_moved_row) (sc := defScope (top 9)) (by decide +kernel)) (fun _ _ _ _ _ => pg_name (i := 2) sc_moved_row.nd rfl (Or.inl rfl)) (fun _ _ _ _ _ => pts_nil) (fun _ _ _ _ _ => (pe_callF c_moved (hr.mono (by decide)) pass0 (pa_cons (pv 2) (pa_cons (pv 1) pa_nil))))) pa_nil))))
theorem sc_pairs_of : FnScope n_pairs_of ["place", "fields"] (defScope (top 12)) := ⟨rfl, rfl, rfl, by decide +kernel, rfl, by decide +kernel, by decide +kernel⟩
theorem ok_pairs_of {P : Program} {w : World} {K : PySem.W.Frag} {mg : Str → Option Value} {base : Heap} {C : Exs} {f : Addr} {fd : FuncData} (B : Bt mg) (T : Xt K mg C) (F : FnP K "pairs_of" (top 12) f fd) (g : mg "pairs_of" = some (.ref f)) (c_leads_young : Fk P w K mg base CX0 2 "leads_young" (spOf K (fs_leads_young C))) : Fk P w K mg base CX0 3 "pairs_of" (spOf K (fs_pairs_of C)) := by
  refine Fk.of (FunD.ok F sc_pairs_of (spOf_len (n := 2) fun _ => rfl) fun cdv A outer s H vs Q E hr h => ⟨t_pairs_of K C E, PSs.nox ?_, pr_pairs_of h⟩) g F.kp (FunD.bindsN F fun _ _ _ _ _ _ us hl => match us, hl with | [_, _], _ => rfl)
  have hu := hu_of hr
  exact (pss_one (ps_ret (pe_lc (own := [("k", 2)]) (g := gName 2) (tt := (tB (tCall (spOf K (fs_leads_young C)) [] E0 (tCons (tOp (rIx K) (tVar 1) (tVar 2)) tNil)))) rfl sc_pairs_of.nd (pi_range1 (by rfl) B.k_range (pa_cons (pe_callB call_lenS (by rfl) B.k_len b_len (pa_cons (pv 1) pa_nil)) pa_nil)) (blkOk_by (N := n_pairs_of) (sc := defScope (top 12)) (by decide +kernel)) (fun _ _ _ _ _ => pg_name (i := 2) sc_pairs_of.nd rfl (Or.inl rfl)) (fun _ _ _ _ _ => (pts_one (pt_val (pe_callF c_leads_young (hr.mono (by decide)) pass0 (pa_cons (pe_ix ix_seq (pv 1) (pv 2) (fun _ _ => rfl)) pa_nil))))) (fun _ _ _ _ _ => (pe_tup (pa_cons (pv 0) (pa_cons (pv 2) pa_nil)))))))
theorem sc_all_lead : FnScope n_all_lead ["heap", "row"] (defScope (top 19)) := ⟨rfl, rfl, rfl, by decide +kernel, rfl, by decide +kernel, by decide +kernel⟩
theorem ok_all_lead {P : Program} {w : World} {K : PySem.W.Frag} {mg : Str → Option Value} {base : Heap} {C : Exs} {f : Addr} {fd : FuncData} (B : Bt mg) (T : Xt K mg C) (F : FnP K "all_lead" (top 19) f fd) (g : mg "all_lead" = some (.ref f)) (c_is_pointer : Fk P w K mg base CX0 1 "is_pointer" (spOf K (fs_is_pointer C))) (c_leads : Fk P w K mg base CX0 2 "leads" (spOf K (fs_leads C))) : Fk P w K mg base CX0 3 "all_lead" (spOf K (fs_all_lead C)) := by
  refine Fk.of (FunD.ok F sc_all_lead (spOf_len (n := 2) fun _ => rfl) fun cdv A outer s H vs Q E hr h => ⟨t_all_lead K C E, PSs.nox ?_, pr_all_lead h⟩) g F.kp (FunD.bindsN F fun _ _ _ _ _ _ us hl => match us, hl with | [_, _], _ => rfl)
  have hu := hu_of hr
  exact (pss_cons (ps_for PassesOwn.never rfl (pi_seq (pv 1)) (pg_name (i := 2) sc_all_lead.nd rfl (by first | exact Or.inl rfl | exact Or.inr rfl))
    (pss_one (ps_if (PW.pt (pw_and (pt_val (pe_callF c_is_pointer (hr.mono (by decide)) pass0 (pa_cons (pv 2) pa_nil))) (pw_and1 (pt_not (pt_val (pe_callF c_leads (hr.mono (by decide)) pass0 (pa_cons (pv 0) (pa_cons (pv 2) pa_nil))))))))
    (pss_one (ps_ret pe_bl))
    pss_nil)))
    (pss_one (ps_ret pe_bl)))
theorem sc_thing_at : FnScope n_thing_at ["heap", "pointer"] (defScope (top 20)) := ⟨rfl, rfl, rfl, by decide +kernel, rfl, by decide +kernel, by decide +kernel⟩
theorem ok_thing_at {P : Program} {w : World} {K : PySem.W.Frag} {mg : Str → Option Value} {base : Heap} {C : Exs} {f : Addr} {fd : FuncData} (B : Bt mg) (T : Xt K mg C) (F : FnP K "thing_at" (top 20) f fd) (g : mg "thing_at" = some (.ref f)) (c_half_of : Fk P w K mg base CX0 1 "half_of" (spOf K (fs_half_of C))) (c_is_pointer : Fk P w K mg base CX0 1 "is_pointer" (spOf K (fs_is_pointer C))) (c_leads : Fk P w K mg base CX0 2 "leads" (spOf K (fs_leads C))) : Fk P w K mg base (L2.CX P w) 3 "thing_at" (spOf K (fs_thing_at C)) := by
  refine Fk.of (FunD.ok F sc_thing_at (spOf_len (n := 2) fun _ => rfl) fun cdv A outer s H vs Q E hr h => ⟨t_thing_at K C E, id ?_, pr_thing_at h⟩) g F.kp (FunD.bindsN F fun _ _ _ _ _ _ us hl => match us, hl with | [_, _], _ => rfl)
  have hu := hu_of hr
  exact (pss_cons (ps_if (PW.pt (pw_or (pt_not (pt_val (pe_callF c_is_pointer (hr.mono (by decide)) pass0 (pa_cons (pv 1) pa_nil)))) (pw_or1 (pt_not (pt_val (pe_callF c_leads (hr.mono (by decide)) pass0 (pa_cons (pv 0) (pa_cons (pv 1) pa_nil))))))))
    (pss_one (ps_raiseT rfl (takes_of rfl rfl rfl rfl) (by exact pmk_own PySem.F.excBase_ValueError T.x_nt T.g_nt T.k_nt T.r_nt rfl)))
    pss_nil)
    (pss_one (ps_ret (pe_ix ix_seq (pe_callF c_half_of (hr.mono (by decide)) pass0 (pa_cons (pv 0) (pa_cons (pv 1) pa_nil))) (pe_ix ix_seq (pv 1) pe_int (fun _ _ => rfl)) (fun _ _ => rfl)))))
theorem sc_come_in_turn : FnScope n_come_in_turn ["heap"] (defScope (top 29)) := ⟨rfl, rfl, rfl, by decide +kernel, rfl, by decide +kernel, by decide +kernel⟩
theorem ok_come_in_turn {P : Program} {w : World} {K : PySem.W.Frag} {mg : Str → Option Value} {base : Heap} {C : Exs} {f : Addr} {fd : FuncData} (B : Bt mg) (T : Xt K mg C) (F : FnP K "come_in_turn" (top 29) f fd) (g : mg "come_in_turn" = some (.ref f)) (c_half_of : Fk P w K mg base CX0 1 "half_of" (spOf K (fs_half_of C))) (c_meet_all : Fk P w K mg base CX0 2 "meet_all" (spOf K (fs_meet_all C))) : Fk P w K mg base CX0 3 "come_in_turn" (spOf K (fs_come_in_turn C)) := by
  refine Fk.of (FunD.ok F sc_come_in_turn (spOf_len (n := 1) fun _ => rfl) fun cdv A outer s H vs Q E hr h => ⟨t_come_in_turn K C E, PSs.nox ?_, pr_come_in_turn h⟩) g F.kp (FunD.bindsN F fun _ _ _ _ _ _ us hl => match us, hl with | [_], _ => rfl)
  have hu := hu_of hr
  exact (pss_cons (ps_set (i := 1) sc_come_in_turn.nd rfl (by first | exact Or.inl rfl | exact Or.inr rfl) pe_dnewT)
    (pss_cons (ps_set (i := 2) sc_come_in_turn.nd rfl (by first | exact Or.inl rfl | exact Or.inr rfl) (pe_lst pa_nil))
    (pss_cons (ps_expr (pe_callF c_meet_all (hr.mono (by decide)) pass0 (pa_cons (pe_ix ix_seq (pv 0) pe_int (fun _ _ => rfl)) (pa_cons (pv 1) (pa_cons (pv 2) pa_nil)))))
    (pss_cons (ps_set (i := 3) sc_come_in_turn.nd rfl (by first | exact Or.inl rfl | exact Or.inr rfl) pe_int)
    (pss_cons (ps_while PassesOwn.never (pt_cmpR op_less (pv 3) (pe_callB call_lenS (by rfl) B.k_len b_len (pa_cons (pv 2) pa_nil)) (nomark _))
    (pss_cons (ps_set (i := 4) sc_come_in_turn.nd rfl (by first | exact Or.inl rfl | exact Or.inr rfl) (pe_ix ix_seq (pv 2) (pv 3) (fun _ _ => rfl)))
    (pss_cons (ps_expr (pe_callF c_meet_all (hr.mono (by decide)) pass0 (pa_cons (pe_ix ix_seq (pe_ix ix_seq (pe_callF c_half_of (hr.mono (by decide)) pass0 (pa_cons (pv 0) (pa_cons (pv 4) pa_nil))) (pe_ix ix_seq (pv 4) pe_int (fun _ _ => rfl)) (fun _ _ => rfl)) pe_int (fun _ _ => rfl)) (pa_cons (pv 1) (pa_cons (pv 2) pa_nil)))))
    (pss_one (ps_set (i := 3) sc_come_in_turn.nd rfl (by first | exact Or.inl rfl | exact Or.inr rfl) (pe_op op_plus (pv 3) pe_int))))))
    (pss_one (ps_ret (pv 2))))))))
theorem sc_meet : FnScope n_meet ["row", "seen", "waiting"] (defScope (top 34)) := ⟨rfl, rfl, rfl, by decide +kernel, rfl, by decide +kernel, by decide +kernel⟩
theorem ok_meet {P : Program} {w : World} {K : PySem.W.Frag} {mg : Str → Option Value} {base : Heap} {C : Exs} {f : Addr} {fd : FuncData} (B : Bt mg) (T : Xt K mg C) (F : FnP K "meet" (top 34) f fd) (g : mg "meet" = some (.ref f)) (c_leads_young : Fk P w K mg base CX0 2 "leads_young" (spOf K (fs_leads_young C))) : Fk P w K mg base CX0 3 "meet" (spOf K (fs_meet C)) := by
  refine Fk.of (FunD.ok F sc_meet (spOf_len (n := 3) fun _ => rfl) fun cdv A outer s H vs Q E hr h => ⟨t_meet K C E, PSs.nox ?_, pr_meet h⟩) g F.kp (FunD.bindsN F fun _ _ _ _ _ _ us hl => match us, hl with | [_, _, _], _ => rfl)
  have hu := hu_of hr
  exact (pss_one (ps_for PassesOwn.never rfl (pi_seq (pv 0)) (pg_name (i := 3) sc_meet.nd rfl (by first | exact Or.inl rfl | exact Or.inr rfl))
    (pss_one (ps_if (PW.pt (pw_and (pt_val (pe_callF c_leads_young (hr.mono (by decide)) pass0 (pa_cons (pv 3) pa_nil))) (pw_and1 (pt_cmp (pc_dnotin hu (pe_ix ix_seq (pv 3) pe_int (fun _ _ => rfl)) (pv 1))))))
    (pss_cons (ps_dput hu (pv 1) (pe_ix ix_seq (pv 3) pe_int (fun _ _ => rfl)) pe_bl rfl)
    (pss_one (ps_expr (pe_bm PySem.F.plainAttrs_list PySem.F.slot_list_append PySem.F.type_list_append mt_append (pv 2) (pa_cons (pe_ix ix_seq (pv 3) pe_int (fun _ _ => rfl)) pa_nil)))))
    pss_nil))))
theorem sc_law_matched : FnScope n_law_matched ["_law_one", "_law_two", "_law_there", "_law_back", "_law_todo"] (defScope (top 55)) := ⟨rfl, rfl, rfl, by decide +kernel, rfl, by decide +kernel, by decide +kernel⟩
theorem ok_law_matched {P : Program} {w : World} {K : PySem.W.Frag} {mg : Str → Option Value} {base : Heap} {C : Exs} {f : Addr} {fd : FuncData} (B : Bt mg) (T : Xt K mg C) (F : FnP K "_law_matched" (top 55) f fd) (g : mg "_law_matched" = some (.ref f)) (c_law_alike : Fk P w K mg base CX0 2 "_law_alike" (spOf K (fs_law_alike C))) (c_law_whole : Fk P w K mg base CX0 1 "_law_whole" (spOf K (fs_law_whole C))) : Fk P w K mg base CX0 3 "_law_matched" (spOf K (fs_law_matched C)) := by
  refine Fk.of (FunD.ok F sc_law_matched (spOf_len (n := 5) fun _ => rfl) fun cdv A outer s H vs Q E hr h => ⟨t_law_matched K C E, PSs.nox ?_, pr_law_matched h⟩) g F.kp (FunD.bindsN F fun _ _ _ _ _ _ us hl => match us, hl with | [_, _, _, _, _], _ => rfl)
  have hu := hu_of hr
  exact (pss_cons (ps_if (pt_not (pt_val (pe_callB call_isi (by rfl) B.k_isinstance b_isinstance (pa_cons (pv 0) (pa_cons (pe_bltn rfl B.k_tuple b_tuple rfl) pa_nil)))))
    (pss_one (ps_ret (pe_callF c_law_alike (hr.mono (by decide)) pass0 (pa_cons (pv 1) (pa_cons (pv 0) pa_nil)))))
    pss_nil)
    (pss_cons (ps_if (pt_cmp (pc_din hu (pv 0) (pv 2)))
    (pss_one (ps_ret (pe_callF c_law_alike (hr.mono (by decide)) pass0 (pa_cons (pv 1) (pa_cons (pe_dget hu (pv 2) (pv 0) (fun _ _ => rfl)) pa_nil)))))
    pss_nil)
    (pss_cons (ps_if (PW.pt (pw_or (pt_not (pt_val (pe_callB call_isi (by rfl) B.k_isinstance b_isinstance (pa_cons (pv 1) (pa_cons (pe_bltn rfl B.k_tuple b_tuple rfl) pa_nil))))) (pw_or (pt_cmpR (op_neD hr.units) (pe_callB call_lenS (by rfl) B.k_len b_len (pa_cons (pv 1) pa_nil)) pe_int (nomark _)) (pw_or (pt_not (pt_val (pe_callB call_isi (by rfl) B.k_isinstance b_isinstance (pa_cons (pe_ix ix_seq (pv 1) pe_int (fun _ _ => rfl)) (pa_cons (pe_bltn rfl B.k_str b_str rfl) pa_nil))))) (pw_or1 (pt_not (pt_val (pe_callF c_law_whole (hr.mono (by decide)) pass0 (pa_cons (pe_ix ix_seq (pv 1) pe_int (fun _ _ => rfl)) pa_nil)))))))))
    (pss_one (ps_ret pe_bl))
    pss_nil)
    (pss_cons (ps_if (PW.pt (pw_or (pt_cmpR op_notIn_seq (pe_ix ix_seq (pv 1) pe_int (fun _ _ => rfl)) (pe_lst (pa_cons pe_str (pa_cons pe_str pa_nil))) (by with_unfolding_all rfl)) (pw_or1 (pt_cmp (pc_din hu (pv 1) (pv 3))))))
    (pss_one (ps_ret pe_bl))
    pss_nil)
    (pss_cons (ps_dput hu (pv 2) (pv 0) (pv 1) rfl)
    (pss_cons (ps_dput hu (pv 3) (pv 1) pe_bl rfl)
    (pss_cons (ps_expr (pe_bm PySem.F.plainAttrs_list PySem.F.slot_list_append PySem.F.type_list_append mt_append (pv 4) (pa_cons (pv 0) pa_nil)))
    (pss_one (ps_ret pe_bl)))))))))
theorem sc_law_deed_by : FnScope n_law_deed_by ["_law_number", "_law_far", "_law_many"] (defScope (top 62)) := ⟨rfl, rfl, rfl, by decide +kernel, rfl, by decide +kernel, by decide +kernel⟩
theorem ok_law_deed_by {P : Program} {w : World} {K : PySem.W.Frag} {mg : Str → Option Value} {base : Heap} {C : Exs} {f : Addr} {fd : FuncData} (B : Bt mg) (T : Xt K mg C) (F : FnP K "_law_deed_by" (top 62) f fd) (g : mg "_law_deed_by" = some (.ref f)) (c_law_make_parts : Fk P w K mg base CX0 2 "_law_make_parts" (spOf K (fs_law_make_parts C))) (c_law_part_by : Fk P w K mg base CX0 1 "_law_part_by" (spOf K (fs_law_part_by C))) (c_law_root_by : Fk P w K mg base CX0 1 "_law_root_by" (spOf K (fs_law_root_by C))) : Fk P w K mg base CX0 3 "_law_deed_by" (spOf K (fs_law_deed_by C)) := by
  refine Fk.of (FunD.ok F sc_law_deed_by (spOf_len (n := 3) fun _ => rfl) fun cdv A outer s H vs Q E hr h => ⟨t_law_deed_by K C E, PSs.nox ?_, pr_law_deed_by h⟩) g F.kp (FunD.bindsN F fun _ _ _ _ _ _ us hl => match us, hl with | [_, _, _], _ => rfl)
  have hu := hu_of hr
  exact (pss_cons (ps_set (i := 3) sc_law_deed_by.nd rfl (by first | exact Or.inl rfl | exact Or.inr rfl) (pe_op op_modu (pe_op op_times (pv 0) pe_int) pe_int))
    (pss_cons (ps_set (i := 4) sc_law_deed_by.nd rfl (by first | exact Or.inl rfl | exact Or.inr rfl) (pe_op op_modu (pv 0) pe_int))
    (pss_cons (ps_set (i := 5) sc_law_deed_by.nd rfl (by first | exact Or.inl rfl | exact Or.inr rfl) (pe_op op_plus (pe_op op_times pe_int (pv 2)) pe_int))
    (pss_cons (ps_set (i := 6) sc_law_deed_by.nd rfl (by first | exact Or.inl rfl | exact Or.inr rfl) (pe_callF c_law_root_by (hr.mono (by decide)) pass0 (pa_cons (pe_op op_modu (pe_op op_floor (pv 0) pe_int) (pv 5)) (pa_cons (pv 2) pa_nil))))
    (pss_cons (ps_set (i := 0) sc_law_deed_by.nd rfl (by first | exact Or.inl rfl | exact Or.inr rfl) (pe_op op_floor (pe_op op_floor (pv 0) pe_int) (pv 5)))
    (pss_cons (ps_set (i := 7) sc_law_deed_by.nd rfl (by first | exact Or.inl rfl | exact Or.inr rfl) (pe_callF c_law_root_by (hr.mono (by decide)) pass0 (pa_cons (pe_op op_modu (pv 0) (pv 5)) (pa_cons (pv 2) pa_nil))))
    (pss_cons (ps_set (i := 8) sc_law_deed_by.nd rfl (by first | exact Or.inl rfl | exact Or.inr rfl) (pe_op op_modu (pe_op op_floor (pe_op op_floor (pv 0) (pv 5)) pe_int) pe_int))
    (pss_cons (ps_set (i := 9) sc_law_deed_by.nd rfl (by first | exact Or.inl rfl | exact Or.inr rfl) (pe_ix ix_seq (pe_lst (pa_cons pe_int (pa_cons pe_int (pa_cons pe_int (pa_cons pe_int (pa_cons pe_int (pa_cons (pe_un un_negm pe_int) (pa_cons pe_int (pa_cons (pv 8) (pa_cons (pv 8) (pa_cons (pe_un un_negm pe_int) (pa_cons (pv 1) (pa_cons (pe_op op_minus (pe_un un_negm pe_int) (pe_callB call_absI (by rfl) B.k_abs b_abs (pa_cons (pv 1) pa_nil))) pa_nil))))))))))))) (pe_op op_modu (pe_op op_floor (pv 0) (pv 5)) pe_int) (fun _ _ => rfl)))
    (pss_cons (ps_set (i := 10) sc_law_deed_by.nd rfl (by first | exact Or.inl rfl | exact Or.inr rfl) (pe_callF c_law_part_by (hr.mono (by decide)) pass0 (pa_cons (pe_op op_modu (pv 3) pe_int) (pa_cons (pv 1) (pa_cons (pv 6) (pa_cons (pv 2) pa_nil))))))
    (pss_cons (ps_if (PW.pt (pw_and (pt_val (pe_callB call_isi (by rfl) B.k_isinstance b_isinstance (pa_cons (pv 10) (pa_cons (pe_bltn rfl B.k_tuple b_tuple rfl) pa_nil)))) (pw_and (pt_cmpR op_more (pv 2) pe_int (nomark _)) (pw_and (pt_cmpR op_less (pe_op op_modu (pv 3) pe_int) pe_int (nomark _)) (pw_and1 (pt_cmpR (op_eqD hr.units) (pe_op op_modu (pe_op op_floor (pv 3) pe_int) pe_int) pe_int (nomark _)))))))
    (pss_one (ps_set (i := 10) sc_law_deed_by.nd rfl (by first | exact Or.inl rfl | exact Or.inr rfl) (pe_tup (pa_cons pe_str (pa_cons (pe_op op_modu (pe_op op_floor (pv 3) pe_int) (pv 2)) pa_nil)))))
    pss_nil)
    (pss_cons (ps_if (pt_cmpR op_less (pv 4) pe_int (nomark _))
    (pss_cons (ps_set (i := 12) sc_law_deed_by.nd rfl (by first | exact Or.inl rfl | exact Or.inr rfl) (pe_op op_modu (pv 3) pe_int))
    (pss_cons (ps_if (pt_cmpR (op_eqD hr.units) (pe_op op_modu (pe_op op_floor (pv 3) pe_int) pe_int) pe_int (nomark _))
    (pss_one (ps_set (i := 12) sc_law_deed_by.nd rfl (by first | exact Or.inl rfl | exact Or.inr rfl) (pe_op op_modu (pe_op op_floor (pv 3) pe_int) pe_int)))
    pss_nil)
    (pss_one (ps_ret (pe_tup (pa_cons pe_str (pa_cons (pv 6) (pa_cons (pe_callF c_law_make_parts (hr.mono (by decide)) pass0 (pa_cons (pv 3) (pa_cons (pv 1) (pa_cons (pv 6) (pa_cons (pv 2) (pa_cons (pv 12) pa_nil)))))) pa_nil))))))))
    pss_nil)
    (pss_cons (ps_if (pt_cmpR op_less (pv 4) pe_int (nomark _))
    (pss_one (ps_ret (pe_tup (pa_cons pe_str (pa_cons (pv 6) (pa_cons (pv 9) (pa_cons (pv 10) pa_nil)))))))
    pss_nil)
    (pss_cons (ps_set (i := 11) sc_law_deed_by.nd rfl (by first | exact Or.inl rfl | exact Or.inr rfl) (pe_lst (pa_cons (pe_tup (pa_cons pe_str (pa_cons (pv 6) (pa_cons (pv 10) pa_nil)))) (pa_cons (pe_tup (pa_cons pe_str (pa_cons (pv 6) (pa_cons (pv 7) (pa_cons (pv 9) pa_nil))))) (pa_cons (pe_tup (pa_cons pe_str (pa_cons (pv 6) pa_nil))) (pa_cons (pe_tup (pa_cons pe_str (pa_cons (pv 7) pa_nil))) (pa_cons (pe_tup (pa_cons pe_str (pa_cons (pv 6) (pa_cons (pv 7) pa_nil)))) pa_nil)))))))
    (pss_cons (ps_set (i := 11) sc_law_deed_by.nd rfl (by first | exact Or.inl rfl | exact Or.inr rfl) (pe_op op_plus (pv 11) (pe_lst (pa_cons (pe_tup (pa_cons pe_str pa_nil)) (pa_cons (pe_tup (pa_cons pe_str pa_nil)) (pa_cons (pe_tup (pa_cons pe_str pa_nil)) pa_nil))))))
    (pss_one (ps_ret (pe_ix ix_seq (pv 11) (pe_op op_minus (pv 4) pe_int) (fun _ _ => rfl))))))))))))))))))
theorem sc_law_told : FnScope n_law_told ["_law_found", "_law_due"] (defScope (top 67)) := ⟨rfl, rfl, rfl, by decide +kernel, rfl, by decide +kernel, by decide +kernel⟩
theorem ok_law_told {P : Program} {w : World} {K : PySem.W.Frag} {mg : Str → Option Value} {base : Heap} {C : Exs} {f : Addr} {fd : FuncData} (B : Bt mg) (T : Xt K mg C) (F : FnP K "_law_told" (top 67) f fd) (g : mg "_law_told" = some (.ref f)) (c_law_alike : Fk P w K mg base CX0 2 "_law_alike" (spOf K (fs_law_alike C))) : Fk P w K mg base CX0 3 "_law_told" (spOf K (fs_law_told C)) := by
  refine Fk.of (FunD.ok F sc_law_told (spOf_len (n := 2) fun _ => rfl) fun cdv A outer s H vs Q E hr h => ⟨t_law_told K C E, PSs.nox ?_, pr_law_told h⟩) g F.kp (FunD.bindsN F fun _ _ _ _ _ _ us hl => match us, hl with | [_, _], _ => rfl)
  have hu := hu_of hr
  exact (pss_cons (ps_if (PW.pt (pw_or (pt_val (pe_callB call_isi (by rfl) B.k_isinstance b_isinstance (pa_cons (pv 1) (pa_cons (pe_bltn rfl B.k_str b_str rfl) pa_nil)))) (pw_or1 (pt_val (pe_callB call_isi (by rfl) B.k_isinstance b_isinstance (pa_cons (pv 1) (pa_cons (pe_bltn rfl B.k_bool b_bool rfl) pa_nil)))))))
    (pss_one (ps_ret (pe_and (pe_cmpR (op_eqD hr.units) (pe_callB call_isi (by rfl) B.k_isinstance b_isinstance (pa_cons (pv 0) (pa_cons (pe_bltn rfl B.k_bool b_bool rfl) pa_nil))) (pe_callB call_isi (by rfl) B.k_isinstance b_isinstance (pa_cons (pv 1) (pa_cons (pe_bltn rfl B.k_bool b_bool rfl) pa_nil))) (nomark _)) (pe_and (pe_not (pe_callB call_isi (by rfl) B.k_isinstance b_isinstance (pa_cons (pv 0) (pa_cons (pe_bltn rfl B.k_tuple b_tuple rfl) pa_nil)))) (pe_one (pe_cmpR (op_eqD hr.units) (pv 0) (pv 1) (nomark _)))))))
    pss_nil)
    (pss_one (ps_ret (pe_callF c_law_alike (hr.mono (by decide)) pass0 (pa_cons (pv 0) (pa_cons (pv 1) pa_nil))))))
theorem sc_book_of : FnScope n_book_of ["old"] (defScope (top 13)) := ⟨rfl, rfl, rfl, by decide +kernel, rfl, by decide +kernel, by decide +kernel⟩
theorem ok_book_of {P : Program} {w : World} {K : PySem.W.Frag} {mg : Str → Option Value} {base : Heap} {C : Exs} {f : Addr} {fd : FuncData} (B : Bt mg) (T : Xt K mg C) (F : FnP K "book_of" (top 13) f fd) (g : mg "book_of" = some (.ref f)) (c_pairs_of : Fk P w K mg base CX0 3 "pairs_of" (spOf K (fs_pairs_of C))) : Fk P w K mg base CX0 4 "book_of" (spOf K (fs_book_of C)) := by
  refine Fk.of (FunD.ok F sc_book_of (spOf_len (n := 1) fun _ => rfl) fun cdv A outer s H vs Q E hr h => ⟨t_book_of K C E, PSs.nox ?_, pr_book_of h⟩) g F.kp (FunD.bindsN F fun _ _ _ _ _ _ us hl => match us, hl with | [_], _ => rfl)
  have hu := hu_of hr
  exact (pss_cons (ps_set (i := 1) sc_book_of.nd rfl (by first | exact Or.inl rfl | exact Or.inr rfl) (pe_lst pa_nil))
    (pss_cons (ps_for PassesOwn.never rfl (pi_range1 (by rfl) B.k_range (pa_cons (pe_callB call_lenS (by rfl) B.k_len b_len (pa_cons (pv 0) pa_nil)) pa_nil)) (pg_name (i := 2) sc_book_of.nd rfl (by first | exact Or.inl rfl | exact Or.inr rfl))
    (pss_one (ps_expr (pe_bm PySem.F.plainAttrs_list PySem.F.slot_list_extend PySem.F.type_list_extend mt_extend (pv 1) (pa_cons (pe_callF c_pairs_of (hr.mono (by decide)) pass0 (pa_cons (pv 2) (pa_cons (pe_ix ix_seq (pe_ix ix_seq (pv 0) (pv 2) (fun _ _ => rfl)) pe_int (fun _ _ => rfl)) pa_nil))) pa_nil)))))
    (pss_one (ps_ret (pe_callTy call_tupS (by rfl) B.k_tuple b_tuple (pa_cons (pv 1) pa_nil))))))
theorem sc_sure_values : FnScope n_sure_values ["heap", "row"] (defScope (top 22)) := ⟨rfl, rfl, rfl, by decide +kernel, rfl, by decide +kernel, by decide +kernel⟩
theorem ok_sure_values {P : Program} {w : World} {K : PySem.W.Frag} {mg : Str → Option Value} {base : Heap} {C : Exs} {f : Addr} {fd : FuncData} (B : Bt mg) (T : Xt K mg C) (F : FnP K "sure_values" (top 22) f fd) (g : mg "sure_values" = some (.ref f)) (c_all_lead : Fk P w K mg base CX0 3 "all_lead" (spOf K (fs_all_lead C))) : Fk P w K mg base (L2.CX P w) 4 "sure_values" (spOf K (fs_sure_values C)) := by
  refine Fk.of (FunD.ok F sc_sure_values (spOf_len (n := 2) fun _ => rfl) fun cdv A outer s H vs Q E hr h => ⟨t_sure_values K C E, id ?_, pr_sure_values h⟩) g F.kp (FunD.bindsN F fun _ _ _ _ _ _ us hl => match us, hl with | [_, _], _ => rfl)
  have hu := hu_of hr
  exact (pss_one (ps_if (pt_not (pt_val (pe_callF c_all_lead (hr.mono (by decide)) pass0 (pa_cons (pv 0) (pa_cons (pv 1) pa_nil)))))
    (pss_one (ps_raiseT rfl (takes_of rfl rfl rfl rfl) (by exact pmk_own PySem.F.excBase_ValueError T.x_nt T.g_nt T.k_nt T.r_nt rfl)))
    pss_nil))
theorem sc_field : FnScope n_field ["heap", "pointer", "k"] (defScope (top 23)) := ⟨rfl, rfl, rfl, by decide +kernel, rfl, by decide +kernel, by decide +kernel⟩
theorem ok_field {P : Program} {w : World} {K : PySem.W.Frag} {mg : Str → Option Value} {base : Heap} {C : Exs} {f : Addr} {fd : FuncData} (B : Bt mg) (T : Xt K mg C) (F : FnP K "field" (top 23) f fd) (g : mg "field" = some (.ref f)) (c_sure_field : Fk P w K mg base (L2.CX P w) 1 "sure_field" (spOf K (fs_sure_field C))) (c_thing_at : Fk P w K mg base (L2.CX P w) 3 "thing_at" (spOf K (fs_thing_at C))) : Fk P w K mg base (L2.CX P w) 4 "field" (spOf K (fs_field C)) := by
  refine Fk.of (FunD.ok F sc_field (spOf_len (n := 3) fun _ => rfl) fun cdv A outer s H vs Q E hr h => ⟨t_field K C E, id ?_, pr_field h⟩) g F.kp (FunD.bindsN F fun _ _ _ _ _ _ us hl => match us, hl with | [_, _, _], _ => rfl)
  have hu := hu_of hr
  exact (pss_cons (ps_set (i := 3) sc_field.nd rfl (by first | exact Or.inl rfl | exact Or.inr rfl) (pe_callF c_thing_at (hr.mono (by decide)) (passes_call (takes_of rfl rfl rfl rfl) fun _ _ _ _ h => h) (pa_cons (pv 0) (pa_cons (pv 1) pa_nil))))
    (pss_cons (ps_expr (pe_callF c_sure_field (hr.mono (by decide)) (passes_call (takes_of rfl rfl rfl rfl) fun _ _ _ _ h => h) (pa_cons (pv 3) (pa_cons (pv 2) pa_nil))))
    (pss_one (ps_ret (pe_ix ix_seq (pe_ix ix_seq (pv 3) pe_int (fun _ _ => rfl)) (pv 2) (fun _ _ => rfl))))))
theorem sc_come_both : FnScope n_come_both ["heap"] (defScope (top 30)) := ⟨rfl, rfl, rfl, by decide +kernel, rfl, by decide +kernel, by decide +kernel⟩
theorem ok_come_both {P : Program} {w : World} {K : PySem.W.Frag} {mg : Str → Option Value} {base : Heap} {C : Exs} {f : Addr} {fd : FuncData} (B : Bt mg) (T : Xt K mg C) (F : FnP K "come_both" (top 30) f fd) (g : mg "come_both" = some (.ref f)) (c_come_in_turn : Fk P w K mg base CX0 3 "come_in_turn" (spOf K (fs_come_in_turn C))) : Fk P w K mg base CX0 4 "come_both" (spOf K (fs_come_both C)) := by
  refine Fk.of (FunD.ok F sc_come_both (spOf_len (n := 1) fun _ => rfl) fun cdv A outer s H vs Q E hr h => ⟨t_come_both K C E, PSs.nox ?_, pr_come_both h⟩) g F.kp (FunD.bindsN F fun _ _ _ _ _ _ us hl => match us, hl with | [_], _ => rfl)
  have hu := hu_of hr
  exact (pss_cons (ps_set (i := 1) sc_come_both.nd rfl (by first | exact Or.inl rfl | exact Or.inr rfl) (pe_callF c_come_in_turn (hr.mono (by decide)) pass0 (pa_cons (pv 0) pa_nil)))
    (pss_cons (ps_set (i := 2) sc_come_both.nd rfl (by first | exact Or.inl rfl | exact Or.inr rfl) (pe_callB call_srt (by rfl) B.k_sorted b_sorted (pa_cons (pe_lc (own := [("pointer", 4)]) (g := gName 4) (tt := (tTest (tOp (rEqD K) (tOp (rIx K) (tVar 4) (tC (.int 0))) (tC (.str "young"))))) rfl sc_come_both.nd (pi_seq (pv 1)) (blkOk_by (N := n_come_both) (sc := defScope (top 30)) (by decide +kernel)) (fun _ _ _ _ _ => pg_name (i := 4) sc_come_both.nd rfl (Or.inl rfl)) (fun _ _ _ _ _ => (pts_one (pt_cmpR (op_eqD hr.units) (pe_ix ix_seq (pv 4) pe_int (fun _ _ => rfl)) pe_str (nomark _)))) (fun _ _ _ _ _ => (pe_ix ix_seq (pv 4) pe_int (fun _ _ => rfl)))) pa_nil)))
    (pss_cons (ps_set (i := 3) sc_come_both.nd rfl (by first | exact Or.inl rfl | exact Or.inr rfl) (pe_callB call_srt (by rfl) B.k_sorted b_sorted (pa_cons (pe_lc (own := [("pointer", 4)]) (g := gName 4) (tt := (tTest (tOp (rEqD K) (tOp (rIx K) (tVar 4) (tC (.int 0))) (tC (.str "old"))))) rfl sc_come_both.nd (pi_seq (pv 1)) (blkOk_by (N := n_come_both) (sc := defScope (top 30)) (by decide +kernel)) (fun _ _ _ _ _ => pg_name (i := 4) sc_come_both.nd rfl (Or.inl rfl)) (fun _ _ _ _ _ => (pts_one (pt_cmpR (op_eqD hr.units) (pe_ix ix_seq (pv 4) pe_int (fun _ _ => rfl)) pe_str (nomark _)))) (fun _ _ _ _ _ => (pe_ix ix_seq (pv 4) pe_int (fun _ _ => rfl)))) pa_nil)))
    (pss_one (ps_ret (pe_tup (pa_cons (pe_callTy call_tupS (by rfl) B.k_tuple b_tuple (pa_cons (pv 2) pa_nil)) (pa_cons (pe_callTy call_tupS (by rfl) B.k_tuple b_tuple (pa_cons (pv 3) pa_nil)) pa_nil))))))))
theorem sc_half_behind : FnScope n_half_behind ["half", "kept", "places"] (defScope (top 31)) := ⟨rfl, rfl, rfl, by decide +kernel, rfl, by decide +kernel, by decide +kernel⟩
theorem ok_half_behind {P : Program} {w : World} {K : PySem.W.Frag} {mg : Str → Option Value} {base : Heap} {C : Exs} {f : Addr} {fd : FuncData} (B : Bt mg) (T : Xt K mg C) (F : FnP K "half_behind" (top 31) f fd) (g : mg "half_behind" = some (.ref f)) (c_moved_row : Fk P w K mg base CX0 3 "moved_row" (spOf K (fs_moved_row C))) : Fk P w K mg base CX0 4 "half_behind" (spOf K (fs_half_behind C)) := by
  refine Fk.of (FunD.ok F sc_half_behind (spOf_len (n := 3) fun _ => rfl) fun cdv A outer s H vs Q E hr h => ⟨t_half_behind K C E, PSs.nox ?_, pr_half_behind h⟩) g F.kp (FunD.bindsN F fun _ _ _ _ _ _ us hl => match us, hl with | [_, _, _], _ => rfl)
  have hu := hu_of hr
  exact (pss_one (ps_ret (pe_callTy call_tupS (by rfl) B.k_tuple b_tuple (pa_cons (pe_lc (own := [("place", 3)]) (g := gName 3) (tt := tYes) rfl sc_half_behind.nd (pi_seq (pv 1)) (blkOk_by (N := n_half_behind) (sc := defScope (top 31)) (by decide +kernel)) (fun _ _ _ _ _ => pg_name (i := 3) sc_half_behind.nd rfl (Or.inl rfl)) (fun _ _ _ _ _ => pts_nil) (fun _ _ _ _ _ => (pe_tup (pa_cons (pe_ix ix_seq (pe_ix ix_seq (pv 0) (pv 3) (fun _ _ => rfl)) pe_int (fun _ _ => rfl)) (pa_cons (pe_callF c_moved_row (hr.mono (by decide)) pass0 (pa_cons (pe_ix ix_seq (pe_ix ix_seq (pv 0) (pv 3) (fun _ _ => rfl)) pe_int (fun _ _ => rfl)) (pa_cons (pv 2) pa_nil))) pa_nil))))) pa_nil))))
theorem sc_come_young : FnScope n_come_young ["heap"] (defScope (top 35)) := ⟨rfl, rfl, rfl, by decide +kernel, rfl, by decide +kernel, by decide +kernel⟩
theorem ok_come_young {P : Program} {w : World} {K : PySem.W.Frag} {mg : Str → Option Value} {base : Heap} {C : Exs} {f : Addr} {fd : FuncData} (B : Bt mg) (T : Xt K mg C) (F : FnP K "come_young" (top 35) f fd) (g : mg "come_young" = some (.ref f)) (c_meet : Fk P w K mg base CX0 3 "meet" (spOf K (fs_meet C))) : Fk P w K mg base CX0 4 "come_young" (spOf K (fs_come_young C)) := by
  refine Fk.of (FunD.ok F sc_come_young (spOf_len (n := 1) fun _ => rfl) fun cdv A outer s H vs Q E hr h => ⟨t_come_young K C E, PSs.nox ?_, pr_come_young h⟩) g F.kp (FunD.bindsN F fun _ _ _ _ _ _ us hl => match us, hl with | [_], _ => rfl)
  have hu := hu_of hr
  exact (pss_cons (ps_set (i := 1) sc_come_young.nd rfl (by first | exact Or.inl rfl | exact Or.inr rfl) pe_dnewK)
    (pss_cons (ps_set (i := 2) sc_come_young.nd rfl (by first | exact Or.inl rfl | exact Or.inr rfl) (pe_lst pa_nil))
    (pss_cons (ps_expr (pe_callF c_meet (hr.mono (by decide)) pass0 (pa_cons (pe_ix ix_seq (pv 0) pe_int (fun _ _ => rfl)) (pa_cons (pv 1) (pa_cons (pv 2) pa_nil)))))
    (pss_cons (ps_for PassesOwn.never rfl (pi_seq (pe_ix ix_seq (pv 0) pe_int (fun _ _ => rfl))) (pg_name (i := 4) sc_come_young.nd rfl (by first | exact Or.inl rfl | exact Or.inr rfl))
    (pss_one (ps_expr (pe_callF c_meet (hr.mono (by decide)) pass0 (pa_cons (pe_lst (pa_cons (pe_ix ix_seq (pe_ix ix_seq (pe_ix ix_seq (pe_ix ix_seq (pv 0) pe_int (fun _ _ => rfl)) (pe_ix ix_seq (pv 4) pe_int (fun _ _ => rfl)) (fun _ _ => rfl)) pe_int (fun _ _ => rfl)) (pe_ix ix_seq (pv 4) pe_int (fun _ _ => rfl)) (fun _ _ => rfl)) pa_nil)) (pa_cons (pv 1) (pa_cons (pv 2) pa_nil)))))))
    (pss_cons (ps_set (i := 3) sc_come_young.nd rfl (by first | exact Or.inl rfl | exact Or.inr rfl) pe_int)
    (pss_cons (ps_while PassesOwn.never (pt_cmpR op_less (pv 3) (pe_callB call_lenS (by rfl) B.k_len b_len (pa_cons (pv 2) pa_nil)) (nomark _))
    (pss_cons (ps_expr (pe_callF c_meet (hr.mono (by decide)) pass0 (pa_cons (pe_ix ix_seq (pe_ix ix_seq (pe_ix ix_seq (pv 0) pe_int (fun _ _ => rfl)) (pe_ix ix_seq (pv 2) (pv 3) (fun _ _ => rfl)) (fun _ _ => rfl)) pe_int (fun _ _ => rfl)) (pa_cons (pv 1) (pa_cons (pv 2) pa_nil)))))
    (pss_one (ps_set (i := 3) sc_come_young.nd rfl (by first | exact Or.inl rfl | exact Or.inr rfl) (pe_op op_plus (pv 3) pe_int)))))
    (pss_one (ps_ret (pe_callTy call_tupS (by rfl) B.k_tuple b_tuple (pa_cons (pe_callB call_srt (by rfl) B.k_sorted b_sorted (pa_cons (pv 2) pa_nil)) pa_nil))))))))))
theorem sc_old_behind : FnScope n_old_behind ["heap", "places"] (defScope (top 37)) := ⟨rfl, rfl, rfl, by decide +kernel, rfl, by decide +kernel, by decide +kernel⟩
theorem ok_old_behind {P : Program} {w : World} {K : PySem.W.Frag} {mg : Str → Option Value} {base : Heap} {C : Exs} {f : Addr} {fd : FuncData} (B : Bt mg) (T : Xt K mg C) (F : FnP K "old_behind" (top 37) f fd) (g : mg "old_behind" = some (.ref f)) (c_moved_row : Fk P w K mg base CX0 3 "moved_row" (spOf K (fs_moved_row C))) : Fk P w K mg base CX0 4 "old_behind" (spOf K (fs_old_behind C)) := by
  refine Fk.of (FunD.ok F sc_old_behind (spOf_len (n := 2) fun _ => rfl) fun cdv A outer s H vs Q E hr h => ⟨t_old_behind K C E, PSs.nox ?_, pr_old_behind h⟩) g F.kp (FunD.bindsN F fun _ _ _ _ _ _ us hl => match us, hl with | [_, _], _ => rfl)
  have hu := hu_of hr
  exact (pss_cons (ps_set (i := 2) sc_old_behind.nd rfl (by first | exact Or.inl rfl | exact Or.inr rfl) (pe_callTy call_listS (by rfl) B.k_list b_list (pa_cons (pe_ix ix_seq (pv 0) pe_int (fun _ _ => rfl)) pa_nil)))
    (pss_cons (ps_for PassesOwn.never rfl (pi_seq (pe_ix ix_seq (pv 0) pe_int (fun _ _ => rfl))) (pg_name (i := 4) sc_old_behind.nd rfl (by first | exact Or.inl rfl | exact Or.inr rfl))
    (pss_cons (ps_set (i := 3) sc_old_behind.nd rfl (by first | exact Or.inl rfl | exact Or.inr rfl) (pe_ix ix_seq (pe_ix ix_seq (pv 0) pe_int (fun _ _ => rfl)) (pe_ix ix_seq (pv 4) pe_int (fun _ _ => rfl)) (fun _ _ => rfl)))
    (pss_one (ps_asg (pe_tup (pa_cons (pe_ix ix_seq (pv 3) pe_int (fun _ _ => rfl)) (pa_cons (pe_callF c_moved_row (hr.mono (by decide)) pass0 (pa_cons (pe_ix ix_seq (pv 3) pe_int (fun _ _ => rfl)) (pa_cons (pv 1) pa_nil))) pa_nil))) (pg_sub (pv 2) (pe_ix ix_seq (pv 4) pe_int (fun _ _ => rfl)) set_list)))))
    (pss_one (ps_ret (pv 2)))))
theorem sc_asked : FnScope n_asked ["heap", "deed"] (defScope (top 44)) := ⟨rfl, rfl, rfl, by decide +kernel, rfl, by decide +kernel, by decide +kernel⟩
theorem ok_asked {P : Program} {w : World} {K : PySem.W.Frag} {mg : Str → Option Value} {base : Heap} {C : Exs} {f : Addr} {fd : FuncData} (B : Bt mg) (T : Xt K mg C) (F : FnP K "asked" (top 44) f fd) (g : mg "asked" = some (.ref f)) (c_is_pointer : Fk P w K mg base CX0 1 "is_pointer" (spOf K (fs_is_pointer C))) (c_root_of : Fk P w K mg base (L2.CX P w) 1 "root_of" (spOf K (fs_root_of C))) (c_thing_at : Fk P w K mg base (L2.CX P w) 3 "thing_at" (spOf K (fs_thing_at C))) : Fk P w K mg base (L2.CX P w) 4 "asked" (spOf K (fs_asked C)) := by
  refine Fk.of (FunD.ok F sc_asked (spOf_len (n := 2) fun _ => rfl) fun cdv A outer s H vs Q E hr h => ⟨t_asked K C E, id ?_, pr_asked h⟩) g F.kp (FunD.bindsN F fun _ _ _ _ _ _ us hl => match us, hl with | [_, _], _ => rfl)
  have hu := hu_of hr
  exact (pss_cons (ps_set (i := 2) sc_asked.nd rfl (by first | exact Or.inl rfl | exact Or.inr rfl) (pe_callF c_root_of (hr.mono (by decide)) (passes_call (takes_of rfl rfl rfl rfl) fun _ _ _ _ h => h) (pa_cons (pv 0) (pa_cons (pe_ix ix_seq (pv 1) pe_int (fun _ _ => rfl)) pa_nil))))
    (pss_cons (ps_if (pt_cmpR (op_eqD hr.units) (pe_ix ix_seq (pv 1) pe_int (fun _ _ => rfl)) pe_str (nomark _))
    (pss_cons (ps_set (i := 3) sc_asked.nd rfl (by first | exact Or.inl rfl | exact Or.inr rfl) (pe_callF c_root_of (hr.mono (by decide)) (passes_call (takes_of rfl rfl rfl rfl) fun _ _ _ _ h => h) (pa_cons (pv 0) (pa_cons (pe_ix ix_seq (pv 1) pe_int (fun _ _ => rfl)) pa_nil))))
    (pss_one (ps_ret (pe_and (pe_callF c_is_pointer (hr.mono (by decide)) pass0 (pa_cons (pv 2) pa_nil)) (pe_one (pe_cmpR (op_eqD hr.units) (pv 2) (pv 3) (nomark _)))))))
    pss_nil)
    (pss_cons (ps_if (pt_val (pe_callF c_is_pointer (hr.mono (by decide)) pass0 (pa_cons (pv 2) pa_nil)))
    (pss_one (ps_ret (pe_tup (pa_cons pe_str (pa_cons (pe_callB call_lenS (by rfl) B.k_len b_len (pa_cons (pe_ix ix_seq (pe_callF c_thing_at (hr.mono (by decide)) (passes_call (takes_of rfl rfl rfl rfl) fun _ _ _ _ h => h) (pa_cons (pv 0) (pa_cons (pv 2) pa_nil))) pe_int (fun _ _ => rfl)) pa_nil)) pa_nil)))))
    pss_nil)
    (pss_one (ps_ret (pv 2))))))
theorem sc_law_walked_k12 : FnScope n_law_walked_k12 ["_law_things", "_law_after", "_law_there", "_law_back", "_law_todo"] (defScope (top 56)) := ⟨rfl, rfl, rfl, by decide +kernel, rfl, by decide +kernel, by decide +kernel⟩
theorem ok_law_walked_k12 {P : Program} {w : World} {K : PySem.W.Frag} {mg : Str → Option Value} {base : Heap} {C : Exs} {f : Addr} {fd : FuncData} (B : Bt mg) (T : Xt K mg C) (F : FnP K "_law_walked" (top 56) f fd) (g : mg "_law_walked" = some (.ref f)) (c_law_fields : Fk P w K mg base CX0 1 "_law_fields" (spOf K (fs_law_fields C))) (c_law_leads : Fk P w K mg base CX0 1 "_law_leads" (spOf K (fs_law_leads C))) (c_law_matched : Fk P w K mg base CX0 3 "_law_matched" (spOf K (fs_law_matched C))) : Fk P w K mg base CX0 4 "_law_walked" (spOf K (fs_law_walked_k12 C)) := by
  refine Fk.of (FunD.ok F sc_law_walked_k12 (spOf_len (n := 5) fun _ => rfl) fun cdv A outer s H vs Q E hr h => ⟨t_law_walked_k12 K C E, PSs.nox ?_, pr_law_walked_k12 h⟩) g F.kp (FunD.bindsN F fun _ _ _ _ _ _ us hl => match us, hl with | [_, _, _, _, _], _ => rfl)
  have hu := hu_of hr
  exact (pss_cons (ps_set (i := 5) sc_law_walked_k12.nd rfl (by first | exact Or.inl rfl | exact Or.inr rfl) pe_int)
    (pss_cons (ps_while PassesOwn.never (pt_cmpR op_less (pv 5) (pe_callB call_lenS (by rfl) B.k_len b_len (pa_cons (pv 4) pa_nil)) (nomark _))
    (pss_cons (ps_set (i := 6) sc_law_walked_k12.nd rfl (by first | exact Or.inl rfl | exact Or.inr rfl) (pe_dget hu (pv 2) (pe_ix ix_seq (pv 4) (pv 5) (fun _ _ => rfl)) (fun _ _ => rfl)))
    (pss_cons (ps_if (pt_not (pt_val (pe_callF c_law_leads (hr.mono (by decide)) pass0 (pa_cons (pv 1) (pa_cons (pv 6) pa_nil)))))
    (pss_one (ps_ret pe_bl))
    pss_nil)
    (pss_cons (ps_set (i := 7) sc_law_walked_k12.nd rfl (by first | exact Or.inl rfl | exact Or.inr rfl) (pe_ix ix_seq (pv 0) (pe_ix ix_seq (pe_ix ix_seq (pv 4) (pv 5) (fun _ _ => rfl)) pe_int (fun _ _ => rfl)) (fun _ _ => rfl)))
    (pss_cons (ps_set (i := 8) sc_law_walked_k12.nd rfl (by first | exact Or.inl rfl | exact Or.inr rfl) (pe_callF c_law_fields (hr.mono (by decide)) pass0 (pa_cons (pv 1) (pa_cons (pv 6) pa_nil))))
    (pss_cons (ps_if (pt_cmpR (op_neD hr.units) (pe_callB call_lenS (by rfl) B.k_len b_len (pa_cons (pv 7) pa_nil)) (pe_callB call_lenS (by rfl) B.k_len b_len (pa_cons (pv 8) pa_nil)) (nomark _))
    (pss_one (ps_ret pe_bl))
    pss_nil)
    (pss_cons (ps_for PassesOwn.never rfl (pi_range1 (by rfl) B.k_range (pa_cons (pe_callB call_lenS (by rfl) B.k_len b_len (pa_cons (pv 7) pa_nil)) pa_nil)) (pg_name (i := 9) sc_law_walked_k12.nd rfl (by first | exact Or.inl rfl | exact Or.inr rfl))
    (pss_one (ps_if (pt_not (pt_val (pe_callF c_law_matched (hr.mono (by decide)) pass0 (pa_cons (pe_ix ix_seq (pv 7) (pv 9) (fun _ _ => rfl)) (pa_cons (pe_ix ix_seq (pv 8) (pv 9) (fun _ _ => rfl)) (pa_cons (pv 2) (pa_cons (pv 3) (pa_cons (pv 4) pa_nil))))))))
    (pss_one (ps_ret pe_bl))
    pss_nil)))
    (pss_one (ps_set (i := 5) sc_law_walked_k12.nd rfl (by first | exact Or.inl rfl | exact Or.inr rfl) (pe_op op_plus (pv 5) pe_int))))))))))
    (pss_one (ps_ret pe_bl))))
theorem sc_made : FnScope n_made ["heap", "fields"] (defScope (top 24)) := ⟨rfl, rfl, rfl, by decide +kernel, rfl, by decide +kernel, by decide +kernel⟩
theorem ok_made {P : Program} {w : World} {K : PySem.W.Frag} {mg : Str → Option Value} {base : Heap} {C : Exs} {f : Addr} {fd : FuncData} (B : Bt mg) (T : Xt K mg C) (F : FnP K "made" (top 24) f fd) (g : mg "made" = some (.ref f)) (c_sure_values : Fk P w K mg base (L2.CX P w) 4 "sure_values" (spOf K (fs_sure_values C))) : Fk P w K mg base (L2.CX P w) 5 "made" (spOf K (fs_made C)) := by
  refine Fk.of (FunD.ok F sc_made (spOf_len (n := 2) fun _ => rfl) fun cdv A outer s H vs Q E hr h => ⟨t_made K C E, id ?_, pr_made h⟩) g F.kp (FunD.bindsN F fun _ _ _ _ _ _ us hl => match us, hl with | [_, _], _ => rfl)
  have hu := hu_of hr
  exact (pss_cons (ps_expr (pe_callF c_sure_values (hr.mono (by decide)) (passes_call (takes_of rfl rfl rfl rfl) fun _ _ _ _ h => h) (pa_cons (pv 0) (pa_cons (pv 1) pa_nil))))
    (pss_cons (ps_set (i := 2) sc_made.nd rfl (by first | exact Or.inl rfl | exact Or.inr rfl) (pe_callB call_lenS (by rfl) B.k_len b_len (pa_cons (pe_ix ix_seq (pv 0) pe_int (fun _ _ => rfl)) pa_nil)))
    (pss_one (ps_ret (pe_tup (pa_cons (pe_tup (pa_cons (pe_op op_plus (pe_ix ix_seq (pv 0) pe_int (fun _ _ => rfl)) (pe_tup (pa_cons (pe_tup (pa_cons pe_int (pa_cons (pv 1) pa_nil))) pa_nil))) (pa_cons (pe_ix ix_seq (pv 0) pe_int (fun _ _ => rfl)) (pa_cons (pe_ix ix_seq (pv 0) pe_int (fun _ _ => rfl)) (pa_cons (pe_ix ix_seq (pv 0) pe_int (fun _ _ => rfl)) pa_nil))))) (pa_cons (pe_tup (pa_cons pe_str (pa_cons (pv 2) pa_nil))) pa_nil)))))))
theorem sc_hold : FnScope n_hold ["heap", "k", "value"] (defScope (top 25)) := ⟨rfl, rfl, rfl, by decide +kernel, rfl, by decide +kernel, by decide +kernel⟩
theorem ok_hold {P : Program} {w : World} {K : PySem.W.Frag} {mg : Str → Option Value} {base : Heap} {C : Exs} {f : Addr} {fd : FuncData} (B : Bt mg) (T : Xt K mg C) (F : FnP K "hold" (top 25) f fd) (g : mg "hold" = some (.ref f)) (c_changed : Fk P w K mg base CX0 1 "changed" (spOf K (fs_changed C))) (c_sure_values : Fk P w K mg base (L2.CX P w) 4 "sure_values" (spOf K (fs_sure_values C))) : Fk P w K mg base (L2.CX P w) 5 "hold" (spOf K (fs_hold C)) := by
  refine Fk.of (FunD.ok F sc_hold (spOf_len (n := 3) fun _ => rfl) fun cdv A outer s H vs Q E hr h => ⟨t_hold K C E, id ?_, pr_hold h⟩) g F.kp (FunD.bindsN F fun _ _ _ _ _ _ us hl => match us, hl with | [_, _, _], _ => rfl)
  have hu := hu_of hr
  exact (pss_cons (ps_if (pt_not (pt_chain op_leq op_less pe_int (pv 1) (pe_callB call_lenS (by rfl) B.k_len b_len (pa_cons (pe_ix ix_seq (pv 0) pe_int (fun _ _ => rfl)) pa_nil))))
    (pss_one (ps_raiseT rfl (takes_of rfl rfl rfl rfl) (by exact pmk_own PySem.F.excBase_ValueError T.x_nr T.g_nr T.k_nr T.r_nr rfl)))
    pss_nil)
    (pss_cons (ps_expr (pe_callF c_sure_values (hr.mono (by decide)) (passes_call (takes_of rfl rfl rfl rfl) fun _ _ _ _ h => h) (pa_cons (pv 0) (pa_cons (pe_lst (pa_cons (pv 2) pa_nil)) pa_nil))))
    (pss_one (ps_ret (pe_tup (pa_cons (pe_ix ix_seq (pv 0) pe_int (fun _ _ => rfl)) (pa_cons (pe_ix ix_seq (pv 0) pe_int (fun _ _ => rfl)) (pa_cons (pe_callF c_changed (hr.mono (by decide)) pass0 (pa_cons (pe_ix ix_seq (pv 0) pe_int (fun _ _ => rfl)) (pa_cons (pv 1) (pa_cons (pv 2) pa_nil)))) (pa_cons (pe_ix ix_seq (pv 0) pe_int (fun _ _ => rfl)) pa_nil)))))))))
theorem sc_put : FnScope n_put ["heap", "pointer", "k", "value"] (defScope (top 26)) := ⟨rfl, rfl, rfl, by decide +kernel, rfl, by decide +kernel, by decide +kernel⟩
theorem ok_put {P : Program} {w : World} {K : PySem.W.Frag} {mg : Str → Option Value} {base : Heap} {C : Exs} {f : Addr} {fd : FuncData} (B : Bt mg) (T : Xt K mg C) (F : FnP K "put" (top 26) f fd) (g : mg "put" = some (.ref f)) (c_booked : Fk P w K mg base CX0 1 "booked" (spOf K (fs_booked C))) (c_changed : Fk P w K mg base CX0 1 "changed" (spOf K (fs_changed C))) (c_leads_young : Fk P w K mg base CX0 2 "leads_young" (spOf K (fs_leads_young C))) (c_sure_field : Fk P w K mg base (L2.CX P w) 1 "sure_field" (spOf K (fs_sure_field C))) (c_sure_values : Fk P w K mg base (L2.CX P w) 4 "sure_values" (spOf K (fs_sure_values C))) (c_thing_at : Fk P w K mg base (L2.CX P w) 3 "thing_at" (spOf K (fs_thing_at C))) : Fk P w K mg base (L2.CX P w) 5 "put" (spOf K (fs_put C)) := by
  refine Fk.of (FunD.ok F sc_put (spOf_len (n := 4) fun _ => rfl) fun cdv A outer s H vs Q E hr h => ⟨t_put K C E, id ?_, pr_put h⟩) g F.kp (FunD.bindsN F fun _ _ _ _ _ _ us hl => match us, hl with | [_, _, _, _], _ => rfl)
  have hu := hu_of hr
  exact (pss_cons (ps_set (i := 4) sc_put.nd rfl (by first | exact Or.inl rfl | exact Or.inr rfl) (pe_callF c_thing_at (hr.mono (by decide)) (passes_call (takes_of rfl rfl rfl rfl) fun _ _ _ _ h => h) (pa_cons (pv 0) (pa_cons (pv 1) pa_nil))))
    (pss_cons (ps_expr (pe_callF c_sure_field (hr.mono (by decide)) (passes_call (takes_of rfl rfl rfl rfl) fun _ _ _ _ h => h) (pa_cons (pv 4) (pa_cons (pv 2) pa_nil))))
    (pss_cons (ps_expr (pe_callF c_sure_values (hr.mono (by decide)) (passes_call (takes_of rfl rfl rfl rfl) fun _ _ _ _ h => h) (pa_cons (pv 0) (pa_cons (pe_lst (pa_cons (pv 3) pa_nil)) pa_nil))))
    (pss_cons (ps_set (i := 5) sc_put.nd rfl (by first | exact Or.inl rfl | exact Or.inr rfl) (pe_ix ix_seq (pv 1) pe_int (fun _ _ => rfl)))
    (pss_cons (ps_set (i := 6) sc_put.nd rfl (by first | exact Or.inl rfl | exact Or.inr rfl) (pe_tup (pa_cons (pe_ix ix_seq (pv 4) pe_int (fun _ _ => rfl)) (pa_cons (pe_callF c_changed (hr.mono (by decide)) pass0 (pa_cons (pe_ix ix_seq (pv 4) pe_int (fun _ _ => rfl)) (pa_cons (pv 2) (pa_cons (pv 3) pa_nil)))) pa_nil))))
    (pss_cons (ps_if (pt_cmpR (op_eqD hr.units) (pe_ix ix_seq (pv 1) pe_int (fun _ _ => rfl)) pe_str (nomark _))
    (pss_one (ps_ret (pe_tup (pa_cons (pe_callF c_changed (hr.mono (by decide)) pass0 (pa_cons (pe_ix ix_seq (pv 0) pe_int (fun _ _ => rfl)) (pa_cons (pv 5) (pa_cons (pv 6) pa_nil)))) (pa_cons (pe_ix ix_seq (pv 0) pe_int (fun _ _ => rfl)) (pa_cons (pe_ix ix_seq (pv 0) pe_int (fun _ _ => rfl)) (pa_cons (pe_ix ix_seq (pv 0) pe_int (fun _ _ => rfl)) pa_nil)))))))
    pss_nil)
    (pss_cons (ps_set (i := 7) sc_put.nd rfl (by first | exact Or.inl rfl | exact Or.inr rfl) (pe_callF c_booked (hr.mono (by decide)) pass0 (pa_cons (pe_ix ix_seq (pv 0) pe_int (fun _ _ => rfl)) (pa_cons (pe_tup (pa_cons (pv 5) (pa_cons (pv 2) pa_nil))) (pa_cons (pe_callF c_leads_young (hr.mono (by decide)) pass0 (pa_cons (pv 3) pa_nil)) pa_nil)))))
    (pss_one (ps_ret (pe_tup (pa_cons (pe_ix ix_seq (pv 0) pe_int (fun _ _ => rfl)) (pa_cons (pe_callF c_changed (hr.mono (by decide)) pass0 (pa_cons (pe_ix ix_seq (pv 0) pe_int (fun _ _ => rfl)) (pa_cons (pv 5) (pa_cons (pv 6) pa_nil)))) (pa_cons (pe_ix ix_seq (pv 0) pe_int (fun _ _ => rfl)) (pa_cons (pv 7) pa_nil))))))))))))))
theorem sc_major : FnScope n_major ["heap"] (defScope (top 32)) := ⟨rfl, rfl, rfl, by decide +kernel, rfl, by decide +kernel, by decide +kernel⟩
theorem ok_major {P : Program} {w : World} {K : PySem.W.Frag} {mg : Str → Option Value} {base : Heap} {C : Exs} {f : Addr} {fd : FuncData} (B : Bt mg) (T : Xt K mg C) (F : FnP K "major" (top 32) f fd) (g : mg "major" = some (.ref f)) (c_book_of : Fk P w K mg base CX0 4 "book_of" (spOf K (fs_book_of C))) (c_come_both : Fk P w K mg base CX0 4 "come_both" (spOf K (fs_come_both C))) (c_half_behind : Fk P w K mg base CX0 4 "half_behind" (spOf K (fs_half_behind C))) (c_moved_row : Fk P w K mg base CX0 3 "moved_row" (spOf K (fs_moved_row C))) : Fk P w K mg base CX0 5 "major" (spOf K (fs_major C)) := by
  refine Fk.of (FunD.ok F sc_major (spOf_len (n := 1) fun _ => rfl) fun cdv A outer s H vs Q E hr h => ⟨t_major K C E, PSs.nox ?_, pr_major h⟩) g F.kp (FunD.bindsN F fun _ _ _ _ _ _ us hl => match us, hl with | [_], _ => rfl)
  have hu := hu_of hr
  exact (pss_cons (ps_set (i := 1) sc_major.nd rfl (by first | exact Or.inl rfl | exact Or.inr rfl) (pe_callF c_come_both (hr.mono (by decide)) pass0 (pa_cons (pv 0) pa_nil)))
    (pss_cons (ps_set (i := 2) sc_major.nd rfl (by first | exact Or.inl rfl | exact Or.inr rfl) pe_dnewT)
    (pss_cons (ps_for PassesOwn.never rfl (pi_range1 (by rfl) B.k_range (pa_cons (pe_callB call_lenS (by rfl) B.k_len b_len (pa_cons (pe_ix ix_seq (pv 1) pe_int (fun _ _ => rfl)) pa_nil)) pa_nil)) (pg_name (i := 4) sc_major.nd rfl (by first | exact Or.inl rfl | exact Or.inr rfl))
    (pss_one (ps_dput hu (pv 2) (pe_tup (pa_cons pe_str (pa_cons (pe_ix ix_seq (pe_ix ix_seq (pv 1) pe_int (fun _ _ => rfl)) (pv 4) (fun _ _ => rfl)) pa_nil))) (pe_tup (pa_cons pe_str (pa_cons (pv 4) pa_nil))) rfl)))
    (pss_cons (ps_for PassesOwn.never rfl (pi_range1 (by rfl) B.k_range (pa_cons (pe_callB call_lenS (by rfl) B.k_len b_len (pa_cons (pe_ix ix_seq (pv 1) pe_int (fun _ _ => rfl)) pa_nil)) pa_nil)) (pg_name (i := 4) sc_major.nd rfl (by first | exact Or.inl rfl | exact Or.inr rfl))
    (pss_one (ps_dput hu (pv 2) (pe_tup (pa_cons pe_str (pa_cons (pe_ix ix_seq (pe_ix ix_seq (pv 1) pe_int (fun _ _ => rfl)) (pv 4) (fun _ _ => rfl)) pa_nil))) (pe_tup (pa_cons pe_str (pa_cons (pv 4) pa_nil))) rfl)))
    (pss_cons (ps_set (i := 3) sc_major.nd rfl (by first | exact Or.inl rfl | exact Or.inr rfl) (pe_callF c_half_behind (hr.mono (by decide)) pass0 (pa_cons (pe_ix ix_seq (pv 0) pe_int (fun _ _ => rfl)) (pa_cons (pe_ix ix_seq (pv 1) pe_int (fun _ _ => rfl)) (pa_cons (pv 2) pa_nil)))))
    (pss_one (ps_ret (pe_tup (pa_cons (pe_callF c_half_behind (hr.mono (by decide)) pass0 (pa_cons (pe_ix ix_seq (pv 0) pe_int (fun _ _ => rfl)) (pa_cons (pe_ix ix_seq (pv 1) pe_int (fun _ _ => rfl)) (pa_cons (pv 2) pa_nil)))) (pa_cons (pv 3) (pa_cons (pe_callF c_moved_row (hr.mono (by decide)) pass0 (pa_cons (pe_ix ix_seq (pv 0) pe_int (fun _ _ => rfl)) (pa_cons (pv 2) pa_nil))) (pa_cons (pe_callF c_book_of (hr.mono (by decide)) pass0 (pa_cons (pv 3) pa_nil)) pa_nil))))))))))))
theorem sc_new_places : FnScope n_new_places ["heap", "patience"] (defScope (top 36)) := ⟨rfl, rfl, rfl, by decide +kernel, rfl, by decide +kernel, by decide +kernel⟩
theorem ok_new_places {P : Program} {w : World} {K : PySem.W.Frag} {mg : Str → Option Value} {base : Heap} {C : Exs} {f : Addr} {fd : FuncData} (B : Bt mg) (T : Xt K mg C) (F : FnP K "new_places" (top 36) f fd) (g : mg "new_places" = some (.ref f)) (c_come_young : Fk P w K mg base CX0 4 "come_young" (spOf K (fs_come_young C))) : Fk P w K mg base CX0 5 "new_places" (spOf K (fs_new_places C)) := by
  refine Fk.of (FunD.ok F sc_new_places (spOf_len (n := 2) fun _ => rfl) fun cdv A outer s H vs Q E hr h => ⟨t_new_places K C E, PSs.nox ?_, pr_new_places h⟩) g F.kp (FunD.bindsN F fun _ _ _ _ _ _ us hl => match us, hl with | [_, _], _ => rfl)
  have hu := hu_of hr
  exact (pss_cons (ps_set (i := 2) sc_new_places.nd rfl (by first | exact Or.inl rfl | exact Or.inr rfl) pe_dnewT)
    (pss_cons (ps_set (i := 3) sc_new_places.nd rfl (by first | exact Or.inl rfl | exact Or.inr rfl) pe_int)
    (pss_cons (ps_set (i := 4) sc_new_places.nd rfl (by first | exact Or.inl rfl | exact Or.inr rfl) (pe_callB call_lenS (by rfl) B.k_len b_len (pa_cons (pe_ix ix_seq (pv 0) pe_int (fun _ _ => rfl)) pa_nil)))
    (pss_cons (ps_for PassesOwn.never rfl (pi_seq (pe_callF c_come_young (hr.mono (by decide)) pass0 (pa_cons (pv 0) pa_nil))) (pg_name (i := 5) sc_new_places.nd rfl (by first | exact Or.inl rfl | exact Or.inr rfl))
    (pss_one (ps_if (pt_cmpR op_geq (pe_ix ix_seq (pe_ix ix_seq (pe_ix ix_seq (pv 0) pe_int (fun _ _ => rfl)) (pv 5) (fun _ _ => rfl)) pe_int (fun _ _ => rfl)) (pv 1) (nomark _))
    (pss_cons (ps_dput hu (pv 2) (pe_tup (pa_cons pe_str (pa_cons (pv 5) pa_nil))) (pe_tup (pa_cons pe_str (pa_cons (pv 4) pa_nil))) rfl)
    (pss_one (ps_set (i := 4) sc_new_places.nd rfl (by first | exact Or.inl rfl | exact Or.inr rfl) (pe_op op_plus (pv 4) pe_int))))
    (pss_cons (ps_dput hu (pv 2) (pe_tup (pa_cons pe_str (pa_cons (pv 5) pa_nil))) (pe_tup (pa_cons pe_str (pa_cons (pv 3) pa_nil))) rfl)
    (pss_one (ps_set (i := 3) sc_new_places.nd rfl (by first | exact Or.inl rfl | exact Or.inr rfl) (pe_op op_plus (pv 3) pe_int)))))))
    (pss_one (ps_ret (pv 2)))))))
theorem sc_law_like_plain_k13 : FnScope n_law_like_plain_k13 ["_law_roots", "_law_things", "_law_after"] (defScope (top 57)) := ⟨rfl, rfl, rfl, by decide +kernel, rfl, by decide +kernel, by decide +kernel⟩
theorem ok_law_like_plain_k13 {P : Program} {w : World} {K : PySem.W.Frag} {mg : Str → Option Value} {base : Heap} {C : Exs} {f : Addr} {fd : FuncData} (B : Bt mg) (T : Xt K mg C) (F : FnP K "_law_like_plain" (top 57) f fd) (g : mg "_law_like_plain" = some (.ref f)) (c_law_book_alike : Fk P w K mg base CX0 2 "_law_book_alike" (spOf K (fs_law_book_alike C))) (c_law_book_of : Fk P w K mg base CX0 1 "_law_book_of" (spOf K (fs_law_book_of C))) (c_law_matched : Fk P w K mg base CX0 3 "_law_matched" (spOf K (fs_law_matched C))) (c_law_right : Fk P w K mg base CX0 2 "_law_right" (spOf K (fs_law_right C))) (c_law_walked_k12 : Fk P w K mg base CX0 4 "_law_walked" (spOf K (fs_law_walked_k12 C))) : Fk P w K mg base CX0 5 "_law_like_plain" (spOf K (fs_law_like_plain_k13 C)) := by
  refine Fk.of (FunD.ok F sc_law_like_plain_k13 (spOf_len (n := 3) fun _ => rfl) fun cdv A outer s H vs Q E hr h => ⟨t_law_like_plain_k13 K C E, PSs.nox ?_, pr_law_like_plain_k13 h⟩) g F.kp (FunD.bindsN F fun _ _ _ _ _ _ us hl => match us, hl with | [_, _, _], _ => rfl)
  have hu := hu_of hr
  exact (pss_cons (ps_if (PW.pt (pw_or (pt_not (pt_val (pe_callF c_law_right (hr.mono (by decide)) pass0 (pa_cons (pv 2) pa_nil)))) (pw_or1 (pt_cmpR (op_neD hr.units) (pe_callB call_lenS (by rfl) B.k_len b_len (pa_cons (pe_ix ix_seq (pv 2) pe_int (fun _ _ => rfl)) pa_nil)) (pe_callB call_lenS (by rfl) B.k_len b_len (pa_cons (pv 0) pa_nil)) (nomark _)))))
    (pss_one (ps_ret pe_bl))
    pss_nil)
    (pss_cons (ps_set (i := 3) sc_law_like_plain_k13.nd rfl (by first | exact Or.inl rfl | exact Or.inr rfl) pe_dnewT)
    (pss_cons (ps_set (i := 4) sc_law_like_plain_k13.nd rfl (by first | exact Or.inl rfl | exact Or.inr rfl) pe_dnewT)
    (pss_cons (ps_set (i := 5) sc_law_like_plain_k13.nd rfl (by first | exact Or.inl rfl | exact Or.inr rfl) (pe_lst pa_nil))
    (pss_cons (ps_for PassesOwn.never rfl (pi_range1 (by rfl) B.k_range (pa_cons (pe_callB call_lenS (by rfl) B.k_len b_len (pa_cons (pv 0) pa_nil)) pa_nil)) (pg_name (i := 6) sc_law_like_plain_k13.nd rfl (by first | exact Or.inl rfl | exact Or.inr rfl))
    (pss_one (ps_if (pt_not (pt_val (pe_callF c_law_matched (hr.mono (by decide)) pass0 (pa_cons (pe_ix ix_seq (pv 0) (pv 6) (fun _ _ => rfl)) (pa_cons (pe_ix ix_seq (pe_ix ix_seq (pv 2) pe_int (fun _ _ => rfl)) (pv 6) (fun _ _ => rfl)) (pa_cons (pv 3) (pa_cons (pv 4) (pa_cons (pv 5) pa_nil))))))))
    (pss_one (ps_ret pe_bl))
    pss_nil)))
    (pss_cons (ps_if (pt_not (pt_val (pe_callF c_law_walked_k12 (hr.mono (by decide)) pass0 (pa_cons (pv 1) (pa_cons (pv 2) (pa_cons (pv 3) (pa_cons (pv 4) (pa_cons (pv 5) pa_nil))))))))
    (pss_one (ps_ret pe_bl))
    pss_nil)
    (pss_one (ps_ret (pe_callF c_law_book_alike (hr.mono (by decide)) pass0 (pa_cons (pe_ix ix_seq (pv 2) pe_int (fun _ _ => rfl)) (pa_cons (pe_callF c_law_book_of (hr.mono (by decide)) pass0 (pa_cons (pe_ix ix_seq (pv 2) pe_int (fun _ _ => rfl)) pa_nil)) pa_nil)))))))))))
theorem sc_minor : FnScope n_minor ["heap", "patience"] (defScope (top 38)) := ⟨rfl, rfl, rfl, by decide +kernel, rfl, by decide +kernel, by decide +kernel⟩
theorem ok_minor {P : Program} {w : World} {K : PySem.W.Frag} {mg : Str → Option Value} {base : Heap} {C : Exs} {f : Addr} {fd : FuncData} (B : Bt mg) (T : Xt K mg C) (F : FnP K "minor" (top 38) f fd) (g : mg "minor" = some (.ref f)) (c_come_young : Fk P w K mg base CX0 4 "come_young" (spOf K (fs_come_young C))) (c_moved_row : Fk P w K mg base CX0 3 "moved_row" (spOf K (fs_moved_row C))) (c_new_places : Fk P w K mg base CX0 5 "new_places" (spOf K (fs_new_places C))) (c_old_behind : Fk P w K mg base CX0 4 "old_behind" (spOf K (fs_old_behind C))) (c_pairs_of : Fk P w K mg base CX0 3 "pairs_of" (spOf K (fs_pairs_of C))) : Fk P w K mg base CX0 6 "minor" (spOf K (fs_minor C)) := by
  refine Fk.of (FunD.ok F sc_minor (spOf_len (n := 2) fun _ => rfl) fun cdv A outer s H vs Q E hr h => ⟨t_minor K C E, PSs.nox ?_, pr_minor h⟩) g F.kp (FunD.bindsN F fun _ _ _ _ _ _ us hl => match us, hl with | [_, _], _ => rfl)
  have hu := hu_of hr
  exact (pss_cons (ps_set (i := 2) sc_minor.nd rfl (by first | exact Or.inl rfl | exact Or.inr rfl) (pe_callF c_new_places (hr.mono (by decide)) pass0 (pa_cons (pv 0) (pa_cons (pv 1) pa_nil))))
    (pss_cons (ps_set (i := 3) sc_minor.nd rfl (by first | exact Or.inl rfl | exact Or.inr rfl) (pe_lst pa_nil))
    (pss_cons (ps_set (i := 4) sc_minor.nd rfl (by first | exact Or.inl rfl | exact Or.inr rfl) (pe_callF c_old_behind (hr.mono (by decide)) pass0 (pa_cons (pv 0) (pa_cons (pv 2) pa_nil))))
    (pss_cons (ps_for PassesOwn.never rfl (pi_seq (pe_callF c_come_young (hr.mono (by decide)) pass0 (pa_cons (pv 0) pa_nil))) (pg_name (i := 8) sc_minor.nd rfl (by first | exact Or.inl rfl | exact Or.inr rfl))
    (pss_cons (ps_set (i := 6) sc_minor.nd rfl (by first | exact Or.inl rfl | exact Or.inr rfl) (pe_ix ix_seq (pe_ix ix_seq (pe_ix ix_seq (pv 0) pe_int (fun _ _ => rfl)) (pv 8) (fun _ _ => rfl)) pe_int (fun _ _ => rfl)))
    (pss_cons (ps_set (i := 7) sc_minor.nd rfl (by first | exact Or.inl rfl | exact Or.inr rfl) (pe_callF c_moved_row (hr.mono (by decide)) pass0 (pa_cons (pe_ix ix_seq (pe_ix ix_seq (pe_ix ix_seq (pv 0) pe_int (fun _ _ => rfl)) (pv 8) (fun _ _ => rfl)) pe_int (fun _ _ => rfl)) (pa_cons (pv 2) pa_nil))))
    (pss_one (ps_if (pt_cmpR op_geq (pv 6) (pv 1) (nomark _))
    (pss_one (ps_expr (pe_bm PySem.F.plainAttrs_list PySem.F.slot_list_append PySem.F.type_list_append mt_append (pv 4) (pa_cons (pe_tup (pa_cons (pv 6) (pa_cons (pv 7) pa_nil))) pa_nil))))
    (pss_one (ps_expr (pe_bm PySem.F.plainAttrs_list PySem.F.slot_list_append PySem.F.type_list_append mt_append (pv 3) (pa_cons (pe_tup (pa_cons (pe_op op_plus (pv 6) pe_int) (pa_cons (pv 7) pa_nil))) pa_nil)))))))))
    (pss_cons (ps_set (i := 5) sc_minor.nd rfl (by first | exact Or.inl rfl | exact Or.inr rfl) (pe_lst pa_nil))
    (pss_cons (ps_for PassesOwn.never rfl (pi_seq (pe_sortSet rfl (by rfl) B.k_sorted (by rfl) B.k_set (pa_cons (pe_lc (own := [("pair", 9)]) (g := gName 9) (tt := tYes) rfl sc_minor.nd (pi_seq (pe_ix ix_seq (pv 0) pe_int (fun _ _ => rfl))) (blkOk_by (N := n_minor) (sc := defScope (top 38)) (by decide +kernel)) (fun _ _ _ _ _ => pg_name (i := 9) sc_minor.nd rfl (Or.inl rfl)) (fun _ _ _ _ _ => pts_nil) (fun _ _ _ _ _ => (pe_ix ix_seq (pv 9) pe_int (fun _ _ => rfl)))) pa_nil))) (pg_name (i := 8) sc_minor.nd rfl (by first | exact Or.inl rfl | exact Or.inr rfl))
    (pss_one (ps_expr (pe_bm PySem.F.plainAttrs_list PySem.F.slot_list_extend PySem.F.type_list_extend mt_extend (pv 5) (pa_cons (pe_callF c_pairs_of (hr.mono (by decide)) pass0 (pa_cons (pv 8) (pa_cons (pe_ix ix_seq (pe_ix ix_seq (pv 4) (pv 8) (fun _ _ => rfl)) pe_int (fun _ _ => rfl)) pa_nil))) pa_nil)))))
    (pss_cons (ps_for PassesOwn.never rfl (pi_range2 (by rfl) B.k_range (pa_cons (pe_callB call_lenS (by rfl) B.k_len b_len (pa_cons (pe_ix ix_seq (pv 0) pe_int (fun _ _ => rfl)) pa_nil)) (pa_cons (pe_callB call_lenS (by rfl) B.k_len b_len (pa_cons (pv 4) pa_nil)) pa_nil))) (pg_name (i := 8) sc_minor.nd rfl (by first | exact Or.inl rfl | exact Or.inr rfl))
    (pss_one (ps_expr (pe_bm PySem.F.plainAttrs_list PySem.F.slot_list_extend PySem.F.type_list_extend mt_extend (pv 5) (pa_cons (pe_callF c_pairs_of (hr.mono (by decide)) pass0 (pa_cons (pv 8) (pa_cons (pe_ix ix_seq (pe_ix ix_seq (pv 4) (pv 8) (fun _ _ => rfl)) pe_int (fun _ _ => rfl)) pa_nil))) pa_nil)))))
    (pss_one (ps_ret (pe_tup (pa_cons (pe_callTy call_tupS (by rfl) B.k_tuple b_tuple (pa_cons (pv 3) pa_nil)) (pa_cons (pe_callTy call_tupS (by rfl) B.k_tuple b_tuple (pa_cons (pv 4) pa_nil)) (pa_cons (pe_callF c_moved_row (hr.mono (by decide)) pass0 (pa_cons (pe_ix ix_seq (pv 0) pe_int (fun _ _ => rfl)) (pa_cons (pv 2) pa_nil))) (pa_cons (pe_callTy call_tupS (by rfl) B.k_tuple b_tuple (pa_cons (pv 5) pa_nil)) pa_nil))))))))))))))
theorem sc_made_at : FnScope n_made_at ["heap", "deed", "room", "patience"] (defScope (top 42)) := ⟨rfl, rfl, rfl, by decide +kernel, rfl, by decide +kernel, by decide +kernel⟩
theorem ok_made_at {P : Program} {w : World} {K : PySem.W.Frag} {mg : Str → Option Value} {base : Heap} {C : Exs} {f : Addr} {fd : FuncData} (B : Bt mg) (T : Xt K mg C) (F : FnP K "made_at" (top 42) f fd) (g : mg "made_at" = some (.ref f)) (c_hold : Fk P w K mg base (L2.CX P w) 5 "hold" (spOf K (fs_hold C))) (c_made : Fk P w K mg base (L2.CX P w) 5 "made" (spOf K (fs_made C))) (c_minor : Fk P w K mg base CX0 6 "minor" (spOf K (fs_minor C))) (c_part_of : Fk P w K mg base (L2.CX P w) 2 "part_of" (spOf K (fs_part_of C))) (c_root_of : Fk P w K mg base (L2.CX P w) 1 "root_of" (spOf K (fs_root_of C))) : Fk P w K mg base (L2.CX P w) 7 "made_at" (spOf K (fs_made_at C)) := by
  refine Fk.of (FunD.ok F sc_made_at (spOf_len (n := 4) fun _ => rfl) fun cdv A outer s H vs Q E hr h => ⟨t_made_at K C E, id ?_, pr_made_at h⟩) g F.kp (FunD.bindsN F fun _ _ _ _ _ _ us hl => match us, hl with | [_, _, _, _], _ => rfl)
  have hu := hu_of hr
  exact (pss_cons (ps_expr (pe_callF c_root_of (hr.mono (by decide)) (passes_call (takes_of rfl rfl rfl rfl) fun _ _ _ _ h => h) (pa_cons (pv 0) (pa_cons (pe_ix ix_seq (pv 1) pe_int (fun _ _ => rfl)) pa_nil))))
    (pss_cons (ps_for (passes_of rfl) rfl (pi_seq (pe_ix ix_seq (pv 1) pe_int (fun _ _ => rfl))) (pg_name (i := 5) sc_made_at.nd rfl (by first | exact Or.inl rfl | exact Or.inr rfl))
    (pss_one (ps_expr (pe_callF c_part_of (hr.mono (by decide)) (passes_call (takes_of rfl rfl rfl rfl) fun _ _ _ _ h => h) (pa_cons (pv 0) (pa_cons (pv 5) pa_nil))))))
    (pss_cons (ps_if (pt_cmpR op_geq (pe_callB call_lenS (by rfl) B.k_len b_len (pa_cons (pe_ix ix_seq (pv 0) pe_int (fun _ _ => rfl)) pa_nil)) (pv 2) (nomark _))
    (pss_one (ps_set (i := 0) sc_made_at.nd rfl (by first | exact Or.inl rfl | exact Or.inr rfl) (pe_callF c_minor (hr.mono (by decide)) pass0 (pa_cons (pv 0) (pa_cons (pv 3) pa_nil)))))
    pss_nil)
    (pss_cons (ps_set (i := 4) sc_made_at.nd rfl (by first | exact Or.inl rfl | exact Or.inr rfl) (pe_callF c_made (hr.mono (by decide)) (passes_call (takes_of rfl rfl rfl rfl) fun _ _ _ _ h => h) (pa_cons (pv 0) (pa_cons (pe_callTy call_tupS (by rfl) B.k_tuple b_tuple (pa_cons (pe_lc (own := [("part", 5)]) (g := gName 5) (tt := tYes) rfl sc_made_at.nd (pi_seq (pe_ix ix_seq (pv 1) pe_int (fun _ _ => rfl))) (blkOk_by (N := n_made_at) (sc := defScope (top 42)) (by decide +kernel)) (fun _ _ _ _ _ => pg_name (i := 5) sc_made_at.nd rfl (Or.inl rfl)) (fun _ _ _ _ _ => pts_nil) (fun _ _ _ _ _ => (pe_callF c_part_of (hr.mono (by decide)) passL (pa_cons (pv 0) (pa_cons (pv 5) pa_nil))))) pa_nil)) pa_nil))))
    (pss_one (ps_ret (pe_callF c_hold (hr.mono (by decide)) (passes_call (takes_of rfl rfl rfl rfl) fun _ _ _ _ h => h) (pa_cons (pe_ix ix_seq (pv 4) pe_int (fun _ _ => rfl)) (pa_cons (pe_ix ix_seq (pv 1) pe_int (fun _ _ => rfl)) (pa_cons (pe_ix ix_seq (pv 4) pe_int (fun _ _ => rfl)) pa_nil))))))))))
theorem sc_changed_by : FnScope n_changed_by ["heap", "deed", "room", "patience"] (defScope (top 43)) := ⟨rfl, rfl, rfl, by decide +kernel, rfl, by decide +kernel, by decide +kernel⟩
theorem ok_changed_by {P : Program} {w : World} {K : PySem.W.Frag} {mg : Str → Option Value} {base : Heap} {C : Exs} {f : Addr} {fd : FuncData} (B : Bt mg) (T : Xt K mg C) (F : FnP K "changed_by" (top 43) f fd) (g : mg "changed_by" = some (.ref f)) (c_field : Fk P w K mg base (L2.CX P w) 4 "field" (spOf K (fs_field C))) (c_hold : Fk P w K mg base (L2.CX P w) 5 "hold" (spOf K (fs_hold C))) (c_made_at : Fk P w K mg base (L2.CX P w) 7 "made_at" (spOf K (fs_made_at C))) (c_major : Fk P w K mg base CX0 5 "major" (spOf K (fs_major C))) (c_minor : Fk P w K mg base CX0 6 "minor" (spOf K (fs_minor C))) (c_part_of : Fk P w K mg base (L2.CX P w) 2 "part_of" (spOf K (fs_part_of C))) (c_put : Fk P w K mg base (L2.CX P w) 5 "put" (spOf K (fs_put C))) (c_root_of : Fk P w K mg base (L2.CX P w) 1 "root_of" (spOf K (fs_root_of C))) : Fk P w K mg base (L2.CX P w) 8 "changed_by" (spOf K (fs_changed_by C)) := by
  refine Fk.of (FunD.ok F sc_changed_by (spOf_len (n := 4) fun _ => rfl) fun cdv A outer s H vs Q E hr h => ⟨t_changed_by K C E, id ?_, pr_changed_by h⟩) g F.kp (FunD.bindsN F fun _ _ _ _ _ _ us hl => match us, hl with | [_, _, _, _], _ => rfl)
  have hu := hu_of hr
  exact (pss_cons (ps_if (pt_cmpR (op_eqD hr.units) (pe_ix ix_seq (pv 1) pe_int (fun _ _ => rfl)) pe_str (nomark _))
    (pss_one (ps_ret (pe_callF c_minor (hr.mono (by decide)) pass0 (pa_cons (pv 0) (pa_cons (pv 3) pa_nil)))))
    pss_nil)
    (pss_cons (ps_if (pt_cmpR (op_eqD hr.units) (pe_ix ix_seq (pv 1) pe_int (fun _ _ => rfl)) pe_str (nomark _))
    (pss_one (ps_ret (pe_callF c_major (hr.mono (by decide)) pass0 (pa_cons (pv 0) pa_nil))))
    pss_nil)
    (pss_cons (ps_set (i := 4) sc_changed_by.nd rfl (by first | exact Or.inl rfl | exact Or.inr rfl) (pe_callF c_root_of (hr.mono (by decide)) (passes_call (takes_of rfl rfl rfl rfl) fun _ _ _ _ h => h) (pa_cons (pv 0) (pa_cons (pe_ix ix_seq (pv 1) pe_int (fun _ _ => rfl)) pa_nil))))
    (pss_cons (ps_if (pt_cmpR (op_eqD hr.units) (pe_ix ix_seq (pv 1) pe_int (fun _ _ => rfl)) pe_str (nomark _))
    (pss_one (ps_ret (pe_callF c_made_at (hr.mono (by decide)) (passes_call (takes_of rfl rfl rfl rfl) fun _ _ _ _ h => h) (pa_cons (pv 0) (pa_cons (pv 1) (pa_cons (pv 2) (pa_cons (pv 3) pa_nil)))))))
    pss_nil)
    (pss_cons (ps_if (pt_cmpR (op_eqD hr.units) (pe_ix ix_seq (pv 1) pe_int (fun _ _ => rfl)) pe_str (nomark _))
    (pss_one (ps_ret (pe_callF c_hold (hr.mono (by decide)) (passes_call (takes_of rfl rfl rfl rfl) fun _ _ _ _ h => h) (pa_cons (pv 0) (pa_cons (pe_ix ix_seq (pv 1) pe_int (fun _ _ => rfl)) (pa_cons (pe_callF c_part_of (hr.mono (by decide)) (passes_call (takes_of rfl rfl rfl rfl) fun _ _ _ _ h => h) (pa_cons (pv 0) (pa_cons (pe_ix ix_seq (pv 1) pe_int (fun _ _ => rfl)) pa_nil))) pa_nil))))))
    pss_nil)
    (pss_cons (ps_if (pt_cmpR (op_eqD hr.units) (pe_ix ix_seq (pv 1) pe_int (fun _ _ => rfl)) pe_str (nomark _))
    (pss_one (ps_ret (pe_callF c_put (hr.mono (by decide)) (passes_call (takes_of rfl rfl rfl rfl) fun _ _ _ _ h => h) (pa_cons (pv 0) (pa_cons (pv 4) (pa_cons (pe_ix ix_seq (pv 1) pe_int (fun _ _ => rfl)) (pa_cons (pe_callF c_part_of (hr.mono (by decide)) (passes_call (takes_of rfl rfl rfl rfl) fun _ _ _ _ h => h) (pa_cons (pv 0) (pa_cons (pe_ix ix_seq (pv 1) pe_int (fun _ _ => rfl)) pa_nil))) pa_nil)))))))
    pss_nil)
    (pss_one (ps_ret (pe_callF c_hold (hr.mono (by decide)) (passes_call (takes_of rfl rfl rfl rfl) fun _ _ _ _ h => h) (pa_cons (pv 0) (pa_cons (pe_ix ix_seq (pv 1) pe_int (fun _ _ => rfl)) (pa_cons (pe_callF c_field (hr.mono (by decide)) (passes_call (takes_of rfl rfl rfl rfl) fun _ _ _ _ h => h) (pa_cons (pv 0) (pa_cons (pe_callF c_root_of (hr.mono (by decide)) (passes_call (takes_of rfl rfl rfl rfl) fun _ _ _ _ h => h) (pa_cons (pv 0) (pa_cons (pe_ix ix_seq (pv 1) pe_int (fun _ _ => rfl)) pa_nil))) (pa_cons (pe_ix ix_seq (pv 1) pe_int (fun _ _ => rfl)) pa_nil)))) pa_nil))))))))))))
theorem sc_play : FnScope n_play ["many", "room", "patience", "deeds"] (defScope (top 45)) := ⟨rfl, rfl, rfl, by decide +kernel, rfl, by decide +kernel, by decide +kernel⟩
theorem ok_play {P : Program} {w : World} {K : PySem.W.Frag} {mg : Str → Option Value} {base : Heap} {C : Exs} {f : Addr} {fd : FuncData} (B : Bt mg) (T : Xt K mg C) (F : FnP K "play" (top 45) f fd) (g : mg "play" = some (.ref f)) (c_asked : Fk P w K mg base (L2.CX P w) 4 "asked" (spOf K (fs_asked C))) (c_changed_by : Fk P w K mg base (L2.CX P w) 8 "changed_by" (spOf K (fs_changed_by C))) (c_started : Fk P w K mg base CX0 1 "started" (spOf K (fs_started C))) : Fk P w K mg base CX0 9 "play" (spOf K (fs_play C)) := by
  refine Fk.of (FunD.ok F sc_play (spOf_len (n := 4) fun _ => rfl) fun cdv A outer s H vs Q E hr h => ⟨t_play K C E, PSs.nox ?_, pr_play T h⟩) g F.kp (FunD.bindsN F fun _ _ _ _ _ _ us hl => match us, hl with | [_, _, _, _], _ => rfl)
  have hu := hu_of hr
  exact (pss_cons (ps_set (i := 4) sc_play.nd rfl (by first | exact Or.inl rfl | exact Or.inr rfl) (pe_callF c_started (hr.mono (by decide)) pass0 (pa_cons (pv 0) pa_nil)))
    (pss_cons (ps_set (i := 5) sc_play.nd rfl (by first | exact Or.inl rfl | exact Or.inr rfl) (pe_lst pa_nil))
    (pss_cons (ps_for PassesOwn.never rfl (pi_seq (pv 3)) (pg_name (i := 7) sc_play.nd rfl (by first | exact Or.inl rfl | exact Or.inr rfl))
    (pss_cons (ps_set (i := 6) sc_play.nd rfl (by first | exact Or.inl rfl | exact Or.inr rfl) pe_str)
    (pss_cons (ps_try_many (tb := fun W => (tIfS (tOr (tTest (tOp (rEqD K) (tOp (rIx K) (tVar 7) (tC (.int 0))) (tC (.str "look")))) (tTest (tOp (rEqD K) (tOp (rIx K) (tVar 7) (tC (.int 0))) (tC (.str "same")))))
    (tAsg (tCallS (spOf K (fs_asked C)) (WE W) (tCons (tVar 4) (tCons (tVar 7) tNil))) (gName 6))
    (tAsg (tCallS (spOf K (fs_changed_by C)) (WE W) (tCons (tVar 4) (tCons (tVar 7) (tCons (tVar 1) (tCons (tVar 2) tNil))))) (gName 4)))) rfl rfl takes0 (fun W pn xe tk hp => (pss_one (ps_if (PW.pt (pw_or (pt_cmpR (op_eqD hr.units) (pe_ix ix_seq (pv 7) pe_int (fun _ _ => rfl)) pe_str (nomark _)) (pw_or1 (pt_cmpR (op_eqD hr.units) (pe_ix ix_seq (pv 7) pe_int (fun _ _ => rfl)) pe_str (nomark _)))))
    (pss_one (ps_set (i := 6) sc_play.nd rfl (by first | exact Or.inl rfl | exact Or.inr rfl) (pe_callFS c_asked (hr.mono (by decide)) (fun σ => passAt tk σ) (pa_cons (pv 4) (pa_cons (pv 7) pa_nil)))))
    (pss_one (ps_set (i := 4) sc_play.nd rfl (by first | exact Or.inl rfl | exact Or.inr rfl) (pe_callFS c_changed_by (hr.mono (by decide)) (fun σ => passAt tk σ) (pa_cons (pv 4) (pa_cons (pv 7) (pa_cons (pv 1) (pa_cons (pv 2) pa_nil)))))))))) (HdsOk.cons ⟨rfl, by decide, .inl T.g_nr⟩ (fun a oe cls d pn _ _ => (pss_one (ps_set (i := 6) sc_play.nd rfl (by first | exact Or.inl rfl | exact Or.inr rfl) pe_str))) (HdsOk.cons ⟨rfl, by decide, .inl T.g_nt⟩ (fun a oe cls d pn _ _ => (pss_one (ps_set (i := 6) sc_play.nd rfl (by first | exact Or.inl rfl | exact Or.inr rfl) pe_str))) (HdsOk.cons ⟨rfl, by decide, .inl T.g_nf⟩ (fun a oe cls d pn _ _ => (pss_one (ps_set (i := 6) sc_play.nd rfl (by first | exact Or.inl rfl | exact Or.inr rfl) pe_str))) HdsOk.nil))))
    (pss_one (ps_expr (pe_bm PySem.F.plainAttrs_list PySem.F.slot_list_append PySem.F.type_list_append mt_append (pv 5) (pa_cons (pv 6) pa_nil)))))))
    (pss_one (ps_ret (pe_tup (pa_cons (pv 5) (pa_cons (pv 4) pa_nil))))))))
theorem sc_law_k13 : FnScope n_law_k13 ["_law_script"] (defScope (top 69)) := ⟨rfl, rfl, rfl, by decide +kernel, rfl, by decide +kernel, by decide +kernel⟩
theorem ok_law_k13 {P : Program} {w : World} {K : PySem.W.Frag} {mg : Str → Option Value} {base : Heap} {C : Exs} {f : Addr} {fd : FuncData} (B : Bt mg) (T : Xt K mg C) (F : FnP K "law" (top 69) f fd) (c_law_answer : Fk P w K mg base CX0 2 "_law_answer" (spOf K (fs_law_answer C))) (c_law_cell_at : Fk P w K mg base CX0 1 "_law_cell_at" (spOf K (fs_law_cell_at C))) (c_law_deed_by : Fk P w K mg base CX0 3 "_law_deed_by" (spOf K (fs_law_deed_by C))) (c_law_like_plain_k13 : Fk P w K mg base CX0 5 "_law_like_plain" (spOf K (fs_law_like_plain_k13 C))) (c_law_number_by : Fk P w K mg base CX0 1 "_law_number_by" (spOf K (fs_law_number_by C))) (c_law_room_by : Fk P w K mg base CX0 1 "_law_room_by" (spOf K (fs_law_room_by C))) (c_law_told : Fk P w K mg base CX0 3 "_law_told" (spOf K (fs_law_told C))) (c_play : Fk P w K mg base CX0 9 "play" (spOf K (fs_play C))) : FnOk P w K mg base CX0 10 f fd ["_law_script"] (spOf K (fs_law_k13 C)) := by
  refine FunD.ok F sc_law_k13 (spOf_len (n := 1) fun _ => rfl) fun cdv A outer s H vs Q E hr h => ⟨t_law_k13 K C E, PSs.nox ?_, pr_law_k13 T h⟩
  have hu := hu_of hr
  exact (pss_cons (ps_set (i := 1) sc_law_k13.nd rfl (by first | exact Or.inl rfl | exact Or.inr rfl) (pe_ix ix_seq (pe_lst (pa_cons pe_int (pa_cons pe_int (pa_cons pe_int (pa_cons pe_int (pa_cons pe_int (pa_cons pe_int (pa_cons pe_int (pa_cons pe_int (pa_cons pe_int (pa_cons (pe_op op_modu (pe_op op_floor (pe_callF c_law_cell_at (hr.mono (by decide)) pass0 (pa_cons (pv 0) (pa_cons pe_int pa_nil))) pe_int) pe_int) pa_nil))))))))))) (pe_op op_modu (pe_callF c_law_cell_at (hr.mono (by decide)) pass0 (pa_cons (pv 0) (pa_cons pe_int pa_nil))) pe_int) (fun _ _ => rfl)))
    (pss_cons (ps_set (i := 2) sc_law_k13.nd rfl (by first | exact Or.inl rfl | exact Or.inr rfl) (pe_callF c_law_room_by (hr.mono (by decide)) pass0 (pa_cons (pe_callF c_law_cell_at (hr.mono (by decide)) pass0 (pa_cons (pv 0) (pa_cons pe_int pa_nil))) pa_nil)))
    (pss_cons (ps_set (i := 3) sc_law_k13.nd rfl (by first | exact Or.inl rfl | exact Or.inr rfl) (pe_op op_modu (pe_callF c_law_cell_at (hr.mono (by decide)) pass0 (pa_cons (pv 0) (pa_cons pe_int pa_nil))) pe_int))
    (pss_cons (ps_if (pt_cmpR (op_eqD hr.units) (pe_op op_modu (pe_op op_floor (pe_callF c_law_cell_at (hr.mono (by decide)) pass0 (pa_cons (pv 0) (pa_cons pe_int pa_nil))) pe_int) pe_int) pe_int (nomark _))
    (pss_one (ps_set (i := 3) sc_law_k13.nd rfl (by first | exact Or.inl rfl | exact Or.inr rfl) (pe_op op_modu (pe_callF c_law_cell_at (hr.mono (by decide)) pass0 (pa_cons (pv 0) (pa_cons pe_int pa_nil))) (pe_op op_power pe_int pe_int))))
    pss_nil)
    (pss_cons (ps_setLc (i := 4) (own := [("_law_k", 12)]) (g := gName 12) (tt := tYes) rfl sc_law_k13.nd rfl rfl (sw_true rfl rfl rfl (by decide +kernel)) (pi_range1 (by rfl) B.k_range (pa_cons (pv 1) pa_nil)) (blkOk_by (N := n_law_k13) (sc := defScope (top 69)) (by decide +kernel)) (fun _ _ _ _ _ => pg_name (i := 12) sc_law_k13.nd rfl (Or.inl rfl)) (fun _ _ _ _ _ => pts_nil) (fun _ _ _ _ _ => pe_non))
    (pss_cons (ps_set (i := 5) sc_law_k13.nd rfl (by first | exact Or.inl rfl | exact Or.inr rfl) (pe_lst pa_nil))
    (pss_cons (ps_set (i := 6) sc_law_k13.nd rfl (by first | exact Or.inl rfl | exact Or.inr rfl) (pe_lst pa_nil))
    (pss_cons (ps_set (i := 7) sc_law_k13.nd rfl (by first | exact Or.inl rfl | exact Or.inr rfl) (pe_lst pa_nil))
    (pss_cons (ps_set (i := 8) sc_law_k13.nd rfl (by first | exact Or.inl rfl | exact Or.inr rfl) (pe_callF c_law_cell_at (hr.mono (by decide)) pass0 (pa_cons (pv 0) (pa_cons pe_int pa_nil))))
    (pss_cons (ps_for PassesOwn.never rfl (pi_range1 (by rfl) B.k_range (pa_cons (pe_op op_times (pe_op op_modu (pe_op op_modu (pe_op op_times (pv 8) pe_int) pe_int) pe_int) (pe_callTy call_int (by rfl) B.k_int b_int (pa_cons (pe_cmpR (op_eqD hr.units) (pe_op op_modu (pv 8) pe_int) pe_int (nomark _)) pa_nil))) pa_nil)) (pg_name (i := 12) sc_law_k13.nd rfl (by first | exact Or.inl rfl | exact Or.inr rfl))
    (pss_cons (ps_expr (pe_bm PySem.F.plainAttrs_list PySem.F.slot_list_append PySem.F.type_list_append mt_append (pv 6) (pa_cons (pe_tup (pa_cons pe_str (pa_cons (pe_op op_modu (pv 12) (pe_callB (call_max rfl) (by rfl) B.k_max b_max (pa_cons pe_int (pa_cons (pv 1) pa_nil)))) (pa_cons (pe_tup pa_nil) pa_nil)))) pa_nil)))
    (pss_one (ps_expr (pe_bm PySem.F.plainAttrs_list PySem.F.slot_list_append PySem.F.type_list_append mt_append (pv 7) (pa_cons (pe_callF c_law_answer (hr.mono (by decide)) pass0 (pa_cons (pe_ix ix_seq (pv 6) (pe_un un_negm pe_int) (fun _ _ => rfl)) (pa_cons (pv 4) (pa_cons (pv 5) pa_nil)))) pa_nil))))))
    (pss_cons (ps_for PassesOwn.never rfl (pi_seq (pe_slice sl_cut (pv 0) (po_some pe_int) (po_some pe_int))) (pg_name (i := 13) sc_law_k13.nd rfl (by first | exact Or.inl rfl | exact Or.inr rfl))
    (pss_cons (ps_set (i := 11) sc_law_k13.nd rfl (by first | exact Or.inl rfl | exact Or.inr rfl) (pe_op op_modu (pe_op op_times (pe_op op_plus (pv 13) (pe_op op_times pe_int (pe_callB call_lenS (by rfl) B.k_len b_len (pa_cons (pv 6) pa_nil)))) pe_int) pe_int))
    (pss_cons (ps_expr (pe_bm PySem.F.plainAttrs_list PySem.F.slot_list_append PySem.F.type_list_append mt_append (pv 6) (pa_cons (pe_callF c_law_deed_by (hr.mono (by decide)) pass0 (pa_cons (pv 11) (pa_cons (pe_callF c_law_number_by (hr.mono (by decide)) pass0 (pa_cons (pv 13) (pa_cons (pe_callB call_lenS (by rfl) B.k_len b_len (pa_cons (pv 6) pa_nil)) pa_nil))) (pa_cons (pv 1) pa_nil)))) pa_nil)))
    (pss_one (ps_expr (pe_bm PySem.F.plainAttrs_list PySem.F.slot_list_append PySem.F.type_list_append mt_append (pv 7) (pa_cons (pe_callF c_law_answer (hr.mono (by decide)) pass0 (pa_cons (pe_ix ix_seq (pv 6) (pe_un un_negm pe_int) (fun _ _ => rfl)) (pa_cons (pv 4) (pa_cons (pv 5) pa_nil)))) pa_nil)))))))
    (pss_cons (ps_set (i := 9) sc_law_k13.nd rfl (by first | exact Or.inl rfl | exact Or.inr rfl) (pe_callTy call_listS (by rfl) B.k_list b_list (pa_cons (pv 6) pa_nil)))
    (pss_cons (ps_set (i := 10) sc_law_k13.nd rfl (by first | exact Or.inl rfl | exact Or.inr rfl) (pe_callF c_play (hr.mono (by decide)) pass0 (pa_cons (pv 1) (pa_cons (pv 2) (pa_cons (pv 3) (pa_cons (pv 9) pa_nil))))))
    (pss_cons (ps_if (PW.pt (pw_or (pt_cmpR (op_neD hr.units) (pv 9) (pv 6) (nomark _)) (pw_or (pt_not (pt_val (pe_callB call_isi (by rfl) B.k_isinstance b_isinstance (pa_cons (pv 10) (pa_cons (pe_bltn rfl B.k_tuple b_tuple rfl) pa_nil))))) (pw_or1 (pt_cmpR (op_neD hr.units) (pe_callB call_lenS (by rfl) B.k_len b_len (pa_cons (pv 10) pa_nil)) pe_int (nomark _))))))
    (pss_one (ps_ret pe_bl))
    pss_nil)
    (pss_cons (ps_if (PW.pt (pw_or (pt_not (pt_val (pe_callB call_isi (by rfl) B.k_isinstance b_isinstance (pa_cons (pe_ix ix_seq (pv 10) pe_int (fun _ _ => rfl)) (pa_cons (pe_bltn rfl B.k_list b_list rfl) pa_nil))))) (pw_or1 (pt_cmpR (op_neD hr.units) (pe_callB call_lenS (by rfl) B.k_len b_len (pa_cons (pe_ix ix_seq (pv 10) pe_int (fun _ _ => rfl)) pa_nil)) (pe_callB call_lenS (by rfl) B.k_len b_len (pa_cons (pv 7) pa_nil)) (nomark _)))))
    (pss_one (ps_ret pe_bl))
    pss_nil)
    (pss_cons (ps_for PassesOwn.never rfl (pi_range1 (by rfl) B.k_range (pa_cons (pe_callB call_lenS (by rfl) B.k_len b_len (pa_cons (pv 7) pa_nil)) pa_nil)) (pg_name (i := 12) sc_law_k13.nd rfl (by first | exact Or.inl rfl | exact Or.inr rfl))
    (pss_one (ps_if (pt_not (pt_val (pe_callF c_law_told (hr.mono (by decide)) pass0 (pa_cons (pe_ix ix_seq (pe_ix ix_seq (pv 10) pe_int (fun _ _ => rfl)) (pv 12) (fun _ _ => rfl)) (pa_cons (pe_ix ix_seq (pv 7) (pv 12) (fun _ _ => rfl)) pa_nil)))))
    (pss_one (ps_ret pe_bl))
    pss_nil)))
    (pss_one (ps_ret (pe_callF c_law_like_plain_k13 (hr.mono (by decide)) pass0 (pa_cons (pv 4) (pa_cons (pv 5) (pa_cons (pe_ix ix_seq (pv 10) pe_int (fun _ _ => rfl)) pa_nil))))))))))))))))))))))
set_option maxHeartbeats 0

theorem facts {P : Program} {w : World} {K : PySem.W.Frag} {h : Heap} {mg : Str → Option Value} {f : Addr} (X : K.In h) (G : h.Ns mainGlobals mg) (hfa : mg ("law" : Str) = some (.ref f)) (c : He.SaysX fa fn [] [] xtB3 w h K) :
    ∃ fd : FuncData, (∀ (s : Shared) (v : Value), BindsTo s fd ⟨[v], []⟩ [("_law_script", v)]) ∧ ∀ base : Heap, K.In base → base.Ns mainGlobals mg → FnOk P w K mg base CX0 10 f fd ["_law_script"] (spOf K (fs_law_k13 (xCs K))) := by
  obtain ⟨fd0, F0⟩ := c.t.d.def_ 0 (d := d_is_pointer) rfl
  obtain ⟨fd1, F1⟩ := c.t.d.def_ 1 (d := d_leads_young) rfl
  obtain ⟨fd2, F2⟩ := c.t.d.def_ 2 (d := d_moved) rfl
  obtain ⟨fd3, F3⟩ := c.t.d.def_ 3 (d := d_moved_row) rfl
  obtain ⟨fd4, F4⟩ := c.t.d.def_ 4 (d := d_changed) rfl
  obtain ⟨fd5, F5⟩ := c.t.d.def_ 5 (d := d_pairs_of) rfl
  obtain ⟨fd6, F6⟩ := c.t.d.def_ 6 (d := d_book_of) rfl
  obtain ⟨fd7, F7⟩ := c.t.d.def_ 7 (d := d_booked) rfl
  obtain ⟨fd8, F8⟩ := c.t.d.def_ 8 (d := d_started) rfl
  obtain ⟨fd9, F9⟩ := c.t.d.def_ 9 (d := d_half_of) rfl
  obtain ⟨fd10, F10⟩ := c.t.d.def_ 10 (d := d_leads) rfl
  obtain ⟨fd11, F11⟩ := c.t.d.def_ 11 (d := d_all_lead) rfl
  obtain ⟨fd12, F12⟩ := c.t.d.def_ 12 (d := d_thing_at) rfl
  obtain ⟨fd13, F13⟩ := c.t.d.def_ 13 (d := d_sure_field) rfl
  obtain ⟨fd14, F14⟩ := c.t.d.def_ 14 (d := d_sure_values) rfl
  obtain ⟨fd15, F15⟩ := c.t.d.def_ 15 (d := d_field) rfl
  obtain ⟨fd16, F16⟩ := c.t.d.def_ 16 (d := d_made) rfl
  obtain ⟨fd17, F17⟩ := c.t.d.def_ 17 (d := d_hold) rfl
  obtain ⟨fd18, F18⟩ := c.t.d.def_ 18 (d := d_put) rfl
  obtain ⟨fd19, F19⟩ := c.t.d.def_ 19 (d := d_meet_all) rfl
  obtain ⟨fd20, F20⟩ := c.t.d.def_ 20 (d := d_come_in_turn) rfl
  obtain ⟨fd21, F21⟩ := c.t.d.def_ 21 (d := d_come_both) rfl
  obtain ⟨fd22, F22⟩ := c.t.d.def_ 22 (d := d_half_behind) rfl
  obtain ⟨fd23, F23⟩ := c.t.d.def_ 23 (d := d_major) rfl
  obtain ⟨fd24, F24⟩ := c.t.d.def_ 24 (d := d_meet) rfl
  obtain ⟨fd25, F25⟩ := c.t.d.def_ 25 (d := d_come_young) rfl
  obtain ⟨fd26, F26⟩ := c.t.d.def_ 26 (d := d_new_places) rfl
  obtain ⟨fd27, F27⟩ := c.t.d.def_ 27 (d := d_old_behind) rfl
  obtain ⟨fd28, F28⟩ := c.t.d.def_ 28 (d := d_minor) rfl
  obtain ⟨fd29, F29⟩ := c.t.d.def_ 29 (d := d_root_of) rfl
  obtain ⟨fd30, F30⟩ := c.t.d.def_ 30 (d := d_part_of) rfl
  obtain ⟨fd31, F31⟩ := c.t.d.def_ 31 (d := d_made_at) rfl
  obtain ⟨fd32, F32⟩ := c.t.d.def_ 32 (d := d_changed_by) rfl
  obtain ⟨fd33, F33⟩ := c.t.d.def_ 33 (d := d_asked) rfl
  obtain ⟨fd34, F34⟩ := c.t.d.def_ 34 (d := d_play) rfl
  obtain ⟨fd35, F35⟩ := c.t.d.def_ 35 (d := d__law_cell_at) rfl
  obtain ⟨fd36, F36⟩ := c.t.d.def_ 36 (d := d__law_whole) rfl
  obtain ⟨fd37, F37⟩ := c.t.d.def_ 37 (d := d__law_alike) rfl
  obtain ⟨fd38, F38⟩ := c.t.d.def_ 38 (d := d__law_book_alike) rfl
  obtain ⟨fd39, F39⟩ := c.t.d.def_ 39 (d := d__law_book_of) rfl
  obtain ⟨fd40, F40⟩ := c.t.d.def_ 40 (d := d__law_leads) rfl
  obtain ⟨fd41, F41⟩ := c.t.d.def_ 41 (d := d__law_fields) rfl
  obtain ⟨fd42, F42⟩ := c.t.d.def_ 42 (d := d__law_right) rfl
  obtain ⟨fd43, F43⟩ := c.t.d.def_ 43 (d := d__law_matched) rfl
  obtain ⟨fd44, F44⟩ := c.t.d.def_ 44 (d := d__law_walked) rfl
  obtain ⟨fd45, F45⟩ := c.t.d.def_ 45 (d := d__law_like_plain) rfl
  obtain ⟨fd46, F46⟩ := c.t.d.def_ 46 (d := d__law_number_by) rfl
  obtain ⟨fd47, F47⟩ := c.t.d.def_ 47 (d := d__law_part_by) rfl
  obtain ⟨fd48, F48⟩ := c.t.d.def_ 48 (d := d__law_root_by) rfl
  obtain ⟨fd49, F49⟩ := c.t.d.def_ 49 (d := d__law_make_parts) rfl
  obtain ⟨fd50, F50⟩ := c.t.d.def_ 50 (d := d__law_deed_by) rfl
  obtain ⟨fd51, F51⟩ := c.t.d.def_ 51 (d := d__law_roots_in) rfl
  obtain ⟨fd52, F52⟩ := c.t.d.def_ 52 (d := d__law_meant) rfl
  obtain ⟨fd53, F53⟩ := c.t.d.def_ 53 (d := d__law_asked) rfl
  obtain ⟨fd54, F54⟩ := c.t.d.def_ 54 (d := d__law_answer) rfl
  obtain ⟨fd55, F55⟩ := c.t.d.def_ 55 (d := d__law_told) rfl
  obtain ⟨fd56, F56⟩ := c.t.d.def_ 56 (d := d__law_room_by) rfl
  obtain ⟨fd57, F57⟩ := c.t.d.def_ 57 (d := d_law) rfl
  have e := hfa.symm.trans (He.glo_ok X G (c.t.d.fact 57 (f := .glo "law") rfl))
  cases e
  have T : Xt K mg (xCs K) := xt_of3 c.more (He.glo_ok X G (c.t.d.fact 58 (f := .glo "HeapError") rfl)) (He.glo_ok X G (c.t.d.fact 59 (f := .glo "NoThing") rfl)) (He.glo_ok X G (c.t.d.fact 60 (f := .glo "NoField") rfl)) (He.glo_ok X G (c.t.d.fact 61 (f := .glo "NoRoot") rfl))
  have B : Bt mg := ⟨He.free_ok X G (c.t.d.fact 62 (f := .free "len") rfl), He.free_ok X G (c.t.d.fact 63 (f := .free "isinstance") rfl), He.free_ok X G (c.t.d.fact 64 (f := .free "max") rfl), He.free_ok X G (c.t.d.fact 65 (f := .free "abs") rfl), He.free_ok X G (c.t.d.fact 66 (f := .free "sorted") rfl), He.free_ok X G (c.t.d.fact 67 (f := .free "tuple") rfl), He.free_ok X G (c.t.d.fact 68 (f := .free "list") rfl), He.free_ok X G (c.t.d.fact 69 (f := .free "int") rfl), He.free_ok X G (c.t.d.fact 70 (f := .free "bool") rfl), He.free_ok X G (c.t.d.fact 71 (f := .free "str") rfl), He.free_ok X G (c.t.d.fact 72 (f := .free "set") rfl), He.free_ok X G (c.t.d.fact 73 (f := .free "range") rfl), He.free_ok X G (c.t.d.fact 74 (f := .free "ValueError") rfl)⟩
  have b := FunD.bindsA (ps := ["_law_script"]) F57 fun _ _ _ _ _ _ us hl => match us, hl with | [_], _ => rfl
  refine ⟨fd57, fun s v => b s [v] rfl, fun base _ _ => ?_⟩
  have k_is_pointer : Fk P w K mg base CX0 1 "is_pointer" (spOf K (fs_is_pointer (xCs K))) := ok_is_pointer B T F0 (He.glo_ok X G (c.t.d.fact 0 (f := .glo "is_pointer") rfl))
  have k_changed : Fk P w K mg base CX0 1 "changed" (spOf K (fs_changed (xCs K))) := ok_changed B T F4 (He.glo_ok X G (c.t.d.fact 4 (f := .glo "changed") rfl))
  have k_booked : Fk P w K mg base CX0 1 "booked" (spOf K (fs_booked (xCs K))) := ok_booked B T F7 (He.glo_ok X G (c.t.d.fact 7 (f := .glo "booked") rfl))
  have k_started : Fk P w K mg base CX0 1 "started" (spOf K (fs_started (xCs K))) := ok_started B T F8 (He.glo_ok X G (c.t.d.fact 8 (f := .glo "started") rfl))
  have k_half_of : Fk P w K mg base CX0 1 "half_of" (spOf K (fs_half_of (xCs K))) := ok_half_of B T F9 (He.glo_ok X G (c.t.d.fact 9 (f := .glo "half_of") rfl))
  have k_sure_field : Fk P w K mg base (L2.CX P w) 1 "sure_field" (spOf K (fs_sure_field (xCs K))) := ok_sure_field B T F13 (He.glo_ok X G (c.t.d.fact 13 (f := .glo "sure_field") rfl))
  have k_root_of : Fk P w K mg base (L2.CX P w) 1 "root_of" (spOf K (fs_root_of (xCs K))) := ok_root_of B T F29 (He.glo_ok X G (c.t.d.fact 29 (f := .glo "root_of") rfl))
  have k_law_cell_at : Fk P w K mg base CX0 1 "_law_cell_at" (spOf K (fs_law_cell_at (xCs K))) := ok_law_cell_at B T F35 (He.glo_ok X G (c.t.d.fact 35 (f := .glo "_law_cell_at") rfl))
  have k_law_whole : Fk P w K mg base CX0 1 "_law_whole" (spOf K (fs_law_whole (xCs K))) := ok_law_whole B T F36 (He.glo_ok X G (c.t.d.fact 36 (f := .glo "_law_whole") rfl))
  have k_law_book_of : Fk P w K mg base CX0 1 "_law_book_of" (spOf K (fs_law_book_of (xCs K))) := ok_law_book_of B T F39 (He.glo_ok X G (c.t.d.fact 39 (f := .glo "_law_book_of") rfl))
  have k_law_leads : Fk P w K mg base CX0 1 "_law_leads" (spOf K (fs_law_leads (xCs K))) := ok_law_leads B T F40 (He.glo_ok X G (c.t.d.fact 40 (f := .glo "_law_leads") rfl))
  have k_law_fields : Fk P w K mg base CX0 1 "_law_fields" (spOf K (fs_law_fields (xCs K))) := ok_law_fields B T F41 (He.glo_ok X G (c.t.d.fact 41 (f := .glo "_law_fields") rfl))
  have k_law_number_by : Fk P w K mg base CX0 1 "_law_number_by" (spOf K (fs_law_number_by (xCs K))) := ok_law_number_by B T F46 (He.glo_ok X G (c.t.d.fact 46 (f := .glo "_law_number_by") rfl))
  have k_law_part_by : Fk P w K mg base CX0 1 "_law_part_by" (spOf K (fs_law_part_by (xCs K))) := ok_law_part_by B T F47 (He.glo_ok X G (c.t.d.fact 47 (f := .glo "_law_part_by") rfl))
  have k_law_root_by : Fk P w K mg base CX0 1 "_law_root_by" (spOf K (fs_law_root_by (xCs K))) := ok_law_root_by B T F48 (He.glo_ok X G (c.t.d.fact 48 (f := .glo "_law_root_by") rfl))
  have k_law_roots_in : Fk P w K mg base CX0 1 "_law_roots_in" (spOf K (fs_law_roots_in (xCs K))) := ok_law_roots_in B T F51 (He.glo_ok X G (c.t.d.fact 51 (f := .glo "_law_roots_in") rfl))
  have k_law_meant : Fk P w K mg base CX0 1 "_law_meant" (spOf K (fs_law_meant (xCs K))) := ok_law_meant B T F52 (He.glo_ok X G (c.t.d.fact 52 (f := .glo "_law_meant") rfl))
  have k_law_asked : Fk P w K mg base CX0 1 "_law_asked" (spOf K (fs_law_asked (xCs K))) := ok_law_asked B T F53 (He.glo_ok X G (c.t.d.fact 53 (f := .glo "_law_asked") rfl))
  have k_law_room_by : Fk P w K mg base CX0 1 "_law_room_by" (spOf K (fs_law_room_by (xCs K))) := ok_law_room_by B T F56 (He.glo_ok X G (c.t.d.fact 56 (f := .glo "_law_room_by") rfl))
  have k_leads_young : Fk P w K mg base CX0 2 "leads_young" (spOf K (fs_leads_young (xCs K))) := ok_leads_young B T F1 (He.glo_ok X G (c.t.d.fact 1 (f := .glo "leads_young") rfl)) k_is_pointer
  have k_moved : Fk P w K mg base CX0 2 "moved" (spOf K (fs_moved (xCs K))) := ok_moved B T F2 (He.glo_ok X G (c.t.d.fact 2 (f := .glo "moved") rfl)) k_is_pointer
  have k_leads : Fk P w K mg base CX0 2 "leads" (spOf K (fs_leads (xCs K))) := ok_leads B T F10 (He.glo_ok X G (c.t.d.fact 10 (f := .glo "leads") rfl)) k_half_of
  have k_meet_all : Fk P w K mg base CX0 2 "meet_all" (spOf K (fs_meet_all (xCs K))) := ok_meet_all B T F19 (He.glo_ok X G (c.t.d.fact 19 (f := .glo "meet_all") rfl)) k_is_pointer
  have k_part_of : Fk P w K mg base (L2.CX P w) 2 "part_of" (spOf K (fs_part_of (xCs K))) := ok_part_of B T F30 (He.glo_ok X G (c.t.d.fact 30 (f := .glo "part_of") rfl)) k_is_pointer k_root_of
  have k_law_alike : Fk P w K mg base CX0 2 "_law_alike" (spOf K (fs_law_alike (xCs K))) := ok_law_alike B T F37 (He.glo_ok X G (c.t.d.fact 37 (f := .glo "_law_alike") rfl)) k_law_whole
  have k_law_book_alike : Fk P w K mg base CX0 2 "_law_book_alike" (spOf K (fs_law_book_alike (xCs K))) := ok_law_book_alike B T F38 (He.glo_ok X G (c.t.d.fact 38 (f := .glo "_law_book_alike") rfl)) k_law_whole
  have k_law_right : Fk P w K mg base CX0 2 "_law_right" (spOf K (fs_law_right (xCs K))) := ok_law_right B T F42 (He.glo_ok X G (c.t.d.fact 42 (f := .glo "_law_right") rfl)) k_law_whole
  have k_law_make_parts : Fk P w K mg base CX0 2 "_law_make_parts" (spOf K (fs_law_make_parts (xCs K))) := ok_law_make_parts B T F49 (He.glo_ok X G (c.t.d.fact 49 (f := .glo "_law_make_parts") rfl)) k_law_part_by
  have k_law_answer : Fk P w K mg base CX0 2 "_law_answer" (spOf K (fs_law_answer (xCs K))) := ok_law_answer B T F54 (He.glo_ok X G (c.t.d.fact 54 (f := .glo "_law_answer") rfl)) k_law_asked k_law_meant k_law_roots_in
  have k_moved_row : Fk P w K mg base CX0 3 "moved_row" (spOf K (fs_moved_row (xCs K))) := ok_moved_row B T F3 (He.glo_ok X G (c.t.d.fact 3 (f := .glo "moved_row") rfl)) k_moved
  have k_pairs_of : Fk P w K mg base CX0 3 "pairs_of" (spOf K (fs_pairs_of (xCs K))) := ok_pairs_of B T F5 (He.glo_ok X G (c.t.d.fact 5 (f := .glo "pairs_of") rfl)) k_leads_young
  have k_all_lead : Fk P w K mg base CX0 3 "all_lead" (spOf K (fs_all_lead (xCs K))) := ok_all_lead B T F11 (He.glo_ok X G (c.t.d.fact 11 (f := .glo "all_lead") rfl)) k_is_pointer k_leads
  have k_thing_at : Fk P w K mg base (L2.CX P w) 3 "thing_at" (spOf K (fs_thing_at (xCs K))) := ok_thing_at B T F12 (He.glo_ok X G (c.t.d.fact 12 (f := .glo "thing_at") rfl)) k_half_of k_is_pointer k_leads
  have k_come_in_turn : Fk P w K mg base CX0 3 "come_in_turn" (spOf K (fs_come_in_turn (xCs K))) := ok_come_in_turn B T F20 (He.glo_ok X G (c.t.d.fact 20 (f := .glo "come_in_turn") rfl)) k_half_of k_meet_all
  have k_meet : Fk P w K mg base CX0 3 "meet" (spOf K (fs_meet (xCs K))) := ok_meet B T F24 (He.glo_ok X G (c.t.d.fact 24 (f := .glo "meet") rfl)) k_leads_young
  have k_law_matched : Fk P w K mg base CX0 3 "_law_matched" (spOf K (fs_law_matched (xCs K))) := ok_law_matched B T F43 (He.glo_ok X G (c.t.d.fact 43 (f := .glo "_law_matched") rfl)) k_law_alike k_law_whole
  have k_law_deed_by : Fk P w K mg base CX0 3 "_law_deed_by" (spOf K (fs_law_deed_by (xCs K))) := ok_law_deed_by B T F50 (He.glo_ok X G (c.t.d.fact 50 (f := .glo "_law_deed_by") rfl)) k_law_make_parts k_law_part_by k_law_root_by
  have k_law_told : Fk P w K mg base CX0 3 "_law_told" (spOf K (fs_law_told (xCs K))) := ok_law_told B T F55 (He.glo_ok X G (c.t.d.fact 55 (f := .glo "_law_told") rfl)) k_law_alike
  have k_book_of : Fk P w K mg base CX0 4 "book_of" (spOf K (fs_book_of (xCs K))) := ok_book_of B T F6 (He.glo_ok X G (c.t.d.fact 6 (f := .glo "book_of") rfl)) k_pairs_of
  have k_sure_values : Fk P w K mg base (L2.CX P w) 4 "sure_values" (spOf K (fs_sure_values (xCs K))) := ok_sure_values B T F14 (He.glo_ok X G (c.t.d.fact 14 (f := .glo "sure_values") rfl)) k_all_lead
  have k_field : Fk P w K mg base (L2.CX P w) 4 "field" (spOf K (fs_field (xCs K))) := ok_field B T F15 (He.glo_ok X G (c.t.d.fact 15 (f := .glo "field") rfl)) k_sure_field k_thing_at
  have k_come_both : Fk P w K mg base CX0 4 "come_both" (spOf K (fs_come_both (xCs K))) := ok_come_both B T F21 (He.glo_ok X G (c.t.d.fact 21 (f := .glo "come_both") rfl)) k_come_in_turn
  have k_half_behind : Fk P w K mg base CX0 4 "half_behind" (spOf K (fs_half_behind (xCs K))) := ok_half_behind B T F22 (He.glo_ok X G (c.t.d.fact 22 (f := .glo "half_behind") rfl)) k_moved_row
  have k_come_young : Fk P w K mg base CX0 4 "come_young" (spOf K (fs_come_young (xCs K))) := ok_come_young B T F25 (He.glo_ok X G (c.t.d.fact 25 (f := .glo "come_young") rfl)) k_meet
  have k_old_behind : Fk P w K mg base CX0 4 "old_behind" (spOf K (fs_old_behind (xCs K))) := ok_old_behind B T F27 (He.glo_ok X G (c.t.d.fact 27 (f := .glo "old_behind") rfl)) k_moved_row
  have k_asked : Fk P w K mg base (L2.CX P w) 4 "asked" (spOf K (fs_asked (xCs K))) := ok_asked B T F33 (He.glo_ok X G (c.t.d.fact 33 (f := .glo "asked") rfl)) k_is_pointer k_root_of k_thing_at
  have k_law_walked_k12 : Fk P w K mg base CX0 4 "_law_walked" (spOf K (fs_law_walked_k12 (xCs K))) := ok_law_walked_k12 B T F44 (He.glo_ok X G (c.t.d.fact 44 (f := .glo "_law_walked") rfl)) k_law_fields k_law_leads k_law_matched
  have k_made : Fk P w K mg base (L2.CX P w) 5 "made" (spOf K (fs_made (xCs K))) := ok_made B T F16 (He.glo_ok X G (c.t.d.fact 16 (f := .glo "made") rfl)) k_sure_values
  have k_hold : Fk P w K mg base (L2.CX P w) 5 "hold" (spOf K (fs_hold (xCs K))) := ok_hold B T F17 (He.glo_ok X G (c.t.d.fact 17 (f := .glo "hold") rfl)) k_changed k_sure_values
  have k_put : Fk P w K mg base (L2.CX P w) 5 "put" (spOf K (fs_put (xCs K))) := ok_put B T F18 (He.glo_ok X G (c.t.d.fact 18 (f := .glo "put") rfl)) k_booked k_changed k_leads_young k_sure_field k_sure_values k_thing_at
  have k_major : Fk P w K mg base CX0 5 "major" (spOf K (fs_major (xCs K))) := ok_major B T F23 (He.glo_ok X G (c.t.d.fact 23 (f := .glo "major") rfl)) k_book_of k_come_both k_half_behind k_moved_row
  have k_new_places : Fk P w K mg base CX0 5 "new_places" (spOf K (fs_new_places (xCs K))) := ok_new_places B T F26 (He.glo_ok X G (c.t.d.fact 26 (f := .glo "new_places") rfl)) k_come_young
  have k_law_like_plain_k13 : Fk P w K mg base CX0 5 "_law_like_plain" (spOf K (fs_law_like_plain_k13 (xCs K))) := ok_law_like_plain_k13 B T F45 (He.glo_ok X G (c.t.d.fact 45 (f := .glo "_law_like_plain") rfl)) k_law_book_alike k_law_book_of k_law_matched k_law_right k_law_walked_k12
  have k_minor : Fk P w K mg base CX0 6 "minor" (spOf K (fs_minor (xCs K))) := ok_minor B T F28 (He.glo_ok X G (c.t.d.fact 28 (f := .glo "minor") rfl)) k_come_young k_moved_row k_new_places k_old_behind k_pairs_of
  have k_made_at : Fk P w K mg base (L2.CX P w) 7 "made_at" (spOf K (fs_made_at (xCs K))) := ok_made_at B T F31 (He.glo_ok X G (c.t.d.fact 31 (f := .glo "made_at") rfl)) k_hold k_made k_minor k_part_of k_root_of
  have k_changed_by : Fk P w K mg base (L2.CX P w) 8 "changed_by" (spOf K (fs_changed_by (xCs K))) := ok_changed_by B T F32 (He.glo_ok X G (c.t.d.fact 32 (f := .glo "changed_by") rfl)) k_field k_hold k_made_at k_major k_minor k_part_of k_put k_root_of
  have k_play : Fk P w K mg base CX0 9 "play" (spOf K (fs_play (xCs K))) := ok_play B T F34 (He.glo_ok X G (c.t.d.fact 34 (f := .glo "play") rfl)) k_asked k_changed_by k_started
  exact ok_law_k13 B T F57 k_law_answer k_law_cell_at k_law_deed_by k_law_like_plain_k13 k_law_number_by k_law_room_by k_law_told k_play
theorem law_in {K : PySem.W.Frag} {C : Exs} (H : Hp) (a : Addr) (ns : List Int) (hS : SqL K H a (ns.map V.int)) : spOf K (fs_law_k13 C) [.ref a] H (fun v _ => v = .bl true) fun _ _ _ => False := by
  rcases hS with e | e
  · exact ⟨(a, ns), [(a, .ro (ns.map D.int))], trivial, .cons (.obj a) .nil, fun _ h => (nomatch h), .cons ⟨rfl, rfl, rfl⟩ .nil, ⟨fun p hp => (by cases List.mem_singleton.mp hp; exact ⟨_, e, Rvs.of_ints⟩), by simp [ads, Box.isKo]⟩, fun v H' d M' hd rv _ _ _ => (by obtain ⟨rfl, _⟩ := hd; exact rv.bl_inv), fun cls H' hx _ => hx⟩
  · exact ⟨(a, ns), [(a, .ko (ns.map D.int))], trivial, .cons (.obj a) .nil, fun _ h => (nomatch h), .cons ⟨rfl, rfl, rfl⟩ .nil, ⟨fun p hp => (by cases List.mem_singleton.mp hp; exact ⟨_, e, Rvs.of_ints⟩), by simp [ads, Box.isKo]⟩, fun v H' d M' hd rv _ _ _ => (by obtain ⟨rfl, _⟩ := hd; exact rv.bl_inv), fun cls H' hx _ => hx⟩
end Mv
open PySem PySem.W PySem.Calls PyProof.Rows
theorem PySem.Challenge.cw_movecollect_k13_whole_plays_holds : PySem.Challenge.rw_movecollect_k13_whole_plays.Holds := by
  w_on; o_law
  refine HandSHeadRun.head_any (r := OpenLaw.row PySem.Challenge.rw_movecollect_k13_whole_plays) (q := view (OpenLaw.row PySem.Challenge.rw_movecollect_k13_whole_plays).prog [69]) (H := Mv.hk) (ob := Mv.ob) (M := 6000) (loose := Mv.loose) (d := HandSHeadRun.topDef (OpenLaw.row PySem.Challenge.rw_movecollect_k13_whole_plays).prog 69) (kwd := []) Mv.ob_eq
    (by kernel_rfl) (fun s => by kernel_rfl) Mv.run (by kernel_rfl) (by kernel_rfl) (by kernel_rfl) (by rfl) (by first | assumption | decide +kernel) (by decide +kernel) ⟨rfl, rfl, rfl, rfl, rfl, by decide +kernel⟩ ?hw ?hc
  case hw => w_witness2
  case hc =>
    refine L2.walk_ofE (l := PySem.Challenge.rw_movecollect_k13_whole_plays) (n := 63) (k := 10) (x := "_law_script") (CX := L2.CX0) rfl (by decide) (by kernel_rfl) ⟨rfl, by decide, by decide⟩ ?F (fun _ _ _ _ z => z)
    intro w mg fa h Y G hmg0
    obtain ⟨K, KX, c⟩ := Y
    have hmg : mg ("law" : PySem.Str) = some (.ref fa) := by
      have e : (HandSHeadRun.topDef (OpenLaw.row PySem.Challenge.rw_movecollect_k13_whole_plays).prog 69).name = ("law" : PySem.Str) := by kernel_rfl
      rw [← e]
      exact hmg0
    obtain ⟨fd, hb, hF⟩ := Mv.facts (P := (PySem.Challenge.rw_movecollect_k13_whole_plays).prog) (w := w) KX G hmg c
    exact ⟨K, fd, Mv.spOf K (Mv.fs_law_k13 (Mv.xCs K)), KX, hb, fun H a ns hl _ hS => Mv.law_in H a ns hS, hF⟩
