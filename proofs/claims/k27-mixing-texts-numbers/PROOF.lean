import PyProof.Rows.All
import HandS.ForMost
import HandS.ForExc
import HandS.Lambda
import HandS.CallSlots
import HandS.Wide
import HandS.Flow
import HandS.Iter
import HandS.Comp
import HandS.TupAny
import HandS.IsInst
import HandS.Text
import HandS.Dict
import HandS.WordsDict
import HandS.Deep
import HandS.Zip
import HandS.RaiseMore
import KE.KDictPairs
import HandS.ExcIs
import HandS.ExcOwn
import HandS.DictTup
import HandS.SortRule
import HandS.SortInts
import KE.KDictWalk
import HandS.SetFor
import HandS.Strs
import HandS.TryOnly
import HandS.TupLe
import PyProof.StrOps2
import HandS.EndTab
import KE.KNestM
import HandS.ReplaceLit
import HandS.TupMul
import HandS.Style
import HandS.ReplaceList
import HandS.Codes
import PyProof.Rows.ReprOcc
import PyProof.Rows.RegStrFacts
import PySem.Challenge.RW_shownviews_k27_whole_mixing_texts_number
set_option Elab.async false
set_option linter.all false
set_option maxRecDepth 100000
/-! DLa: trees of data (D), a store of cells that change, what stands for what (Rep), results (R), readings. -/
namespace DL
open PySem PySem.Spec L2
open PyProof.Rows hiding St

/-- a tree of data -/
inductive D where
  | non | bl (b : Bool) | int (i : Int) | str (x : Str) | ty (n : String)
  | tup (l : List D) | tmp (l : List D) | lst (l : List D) | dic (ks : List Key) (vs : List D)
  | ref (a : Addr) | cell (n : Nat) | lam (f c : Addr) (q : Str) (ds : List D) (vs : List L2.V) | scr (ns : List Int)
  deriving Inhabited

/-- a cell of the store -/
inductive C where
  | lst (l : List D) | dic (ks : List Key) (vs : List D) | ins (cl : Addr) (ns : List Str) (vs : List D) | dead
  deriving Inhabited

/-- a list that is never written any more -/
def FzL (K : PySem.W.Frag) (H : Hp) (a : Addr) (xs : List V) : Prop := ∃ o, H a = some (.frz o (.lst xs))
theorem FzL.sql {K : PySem.W.Frag} {H : Hp} {a : Addr} {xs : List V} (h : FzL K H a xs) : SqL K H a xs := .inl (.inr h)
/-- a tuple without a dict of its own -/
def TpL (K : PySem.W.Frag) (H : Hp) (a : Addr) (xs : List V) : Prop :=
  (∃ o, H a = some (.frz o (.tup xs)) ∧ o.dict = none) ∨
    ∃ (o : Obj) (its : Array Value) (n : Nat), K.lookup a = some o ∧ o.cls = .type "tuple" ∧ o.dict = none ∧ o.data = .seq its n ∧ its.size ≤ sizeLine ∧ Vals xs its.toList
theorem TpL.sqt {K : PySem.W.Frag} {H : Hp} {a : Addr} {xs : List V} (h : TpL K H a xs) : SqT K H a xs := by
  rcases h with ⟨o, h, _⟩ | ⟨o, its, n, h1, h2, _, h3⟩
  · exact .inl (.inr ⟨o, h⟩)
  · exact .inr ⟨o, its, n, h1, h2, h3⟩
/-- a list of ints that the fragment knows -/
def KL (K : PySem.W.Frag) (a : Addr) (xs : List V) : Prop := ∃ (o : Obj) (its : Array Value) (n : Nat), K.lookup a = some o ∧ o.cls = .type "list" ∧ o.dict = none ∧ o.data = .seq its n ∧ its.size ≤ sizeLine ∧ Vals xs its.toList
mutual
def Rep (K : PySem.W.Frag) (μ : List Addr) (H : Hp) : D → V → Prop
  | .non, v => v = .non
  | .bl b, v => v = .bl b
  | .int i, v => v = .int i
  | .str x, v => v = .str x
  | .ty n, v => v = .ty n
  | .tup l, v => ∃ a xs, v = .ref a ∧ TpL K H a xs ∧ RepL K μ H l xs
  | .tmp l, v => ∃ a xs, v = .ref a ∧ SqT K H a xs ∧ RepL K μ H l xs
  | .lst l, v => ∃ a xs, v = .ref a ∧ FzL K H a xs ∧ RepL K μ H l xs
  | .dic ks vs, v => ∃ a xs o, v = .ref a ∧ H a = some (.frz o (.dK (ks.zip xs))) ∧ ks.length = vs.length ∧ RepL K μ H vs xs
  | .ref a, v => v = .ref a
  | .cell n, v => ∃ a, μ[n]? = some a ∧ v = .ref a
  | .lam f c q ds vs, v => v = .ref f ∧ H c = some (LamX.CodeO c q) ∧ RepL K μ H ds vs
  | .scr ns, v => ∃ a, v = .ref a ∧ KL K a (ns.map V.int)
def RepL (K : PySem.W.Frag) (μ : List Addr) (H : Hp) : List D → List V → Prop
  | [], vs => vs = []
  | d :: ds, vs => ∃ x xs, vs = x :: xs ∧ Rep K μ H d x ∧ RepL K μ H ds xs
end

def Celled : Option HO → Prop
  | some (.lst _) => True
  | some (.dK _) => True
  | some (.ins _ _ _) => True
  | _ => False
theorem celled_cod {c : Addr} {q : Str} (h : Celled (some (LamX.CodeO c q))) : False := by
  unfold LamX.CodeO at h
  exact h
/-- what never changes stays -/
structure Kept (H H' : Hp) : Prop where
  tup : ∀ a xs, H a = some (.tup xs) → H' a = some (.tup xs)
  frz : ∀ a o u, H a = some (.frz o u) → H' a = some (.frz o u)
  cod : ∀ c q, H c = some (LamX.CodeO c q) → H' c = some (LamX.CodeO c q)
theorem Kept.refl (H : Hp) : Kept H H := ⟨fun _ _ h => h, fun _ _ _ h => h, fun _ _ h => h⟩
theorem Kept.trans {H H1 H2 : Hp} (a : Kept H H1) (b : Kept H1 H2) : Kept H H2 := ⟨fun c xs h => b.tup c xs (a.tup c xs h), fun c o u h => b.frz c o u (a.frz c o u h), fun c q h => b.cod c q (a.cod c q h)⟩
theorem Kept.new {H : Hp} {p : Addr} {o : HO} (h : H p = none) : Kept H (upd H p o) := ⟨fun a xs e => by rw [upd_ne (ne_of_none e h)]; exact e, fun a o u e => by rw [upd_ne (ne_of_none e h)]; exact e, fun a q e => by rw [upd_ne (ne_of_none e h)]; exact e⟩
theorem Kept.mut {H : Hp} {p : Addr} {o : HO} (h : Celled (H p)) : Kept H (upd H p o) := by
  have ne : ∀ a u, H a = some u → ¬ Celled (some u) → a ≠ p := fun a u e n z => by
    subst z
    rw [e] at h
    exact n h
  exact ⟨fun a xs e => by rw [upd_ne (ne a _ e (fun z => z))]; exact e, fun a o u e => by rw [upd_ne (ne a _ e (fun z => z))]; exact e, fun a q e => by rw [upd_ne (ne a _ e celled_cod)]; exact e⟩
theorem Kept.sqT {K : PySem.W.Frag} {H H' : Hp} {a : Addr} {xs : List V} (k : Kept H H') (h : SqT K H a xs) : SqT K H' a xs := by
  rcases h with (h | ⟨o, h⟩) | h
  · exact .inl (.inl (k.tup _ _ h))
  · exact .inl (.inr ⟨o, k.frz _ _ _ h⟩)
  · exact .inr h

theorem Kept.tpL {K : PySem.W.Frag} {H H' : Hp} {a : Addr} {xs : List V} (k : Kept H H') (h : TpL K H a xs) : TpL K H' a xs := h.imp (fun ⟨o, e, d⟩ => ⟨o, k.frz _ _ _ e, d⟩) id
section
variable {K : PySem.W.Frag} {μ μ' : List Addr} {H H' : Hp}
mutual
theorem Rep.keep (hk : Kept H H') (hm : μ <+: μ') : ∀ {d : D} {v : V}, Rep K μ H d v → Rep K μ' H' d v
  | .non, _, h => h
  | .bl _, _, h => h
  | .int _, _, h => h
  | .str _, _, h => h
  | .ty _, _, h => h
  | .tup l, _, h => by
    obtain ⟨a, xs, e, s, r⟩ := h
    exact ⟨a, xs, e, hk.tpL s, RepL.keep hk hm r⟩
  | .tmp l, _, h => by
    obtain ⟨a, xs, e, s, r⟩ := h
    exact ⟨a, xs, e, hk.sqT s, RepL.keep hk hm r⟩
  | .lst l, _, h => by
    obtain ⟨a, xs, e, s, r⟩ := h
    exact ⟨a, xs, e, s.imp fun o q => hk.frz _ _ _ q, RepL.keep hk hm r⟩
  | .dic ks vs, _, h => by
    obtain ⟨a, xs, o, e, s, n, r⟩ := h
    exact ⟨a, xs, o, e, hk.frz _ _ _ s, n, RepL.keep hk hm r⟩
  | .ref _, _, h => h
  | .cell n, _, h => by
    obtain ⟨a, e, q⟩ := h
    obtain ⟨t, rfl⟩ := hm
    refine ⟨a, ?_, q⟩
    rw [List.getElem?_append_left]
    · exact e
    · exact (List.getElem?_eq_some_iff.mp e).1
  | .lam f c q ds vs, _, h => ⟨h.1, hk.cod _ _ h.2.1, RepL.keep hk hm h.2.2⟩
  | .scr ns, _, h => h
theorem RepL.keep (hk : Kept H H') (hm : μ <+: μ') : ∀ {l : List D} {vs : List V}, RepL K μ H l vs → RepL K μ' H' l vs
  | [], _, h => h
  | d :: ds, _, h => by
    obtain ⟨x, xs, e, r, q⟩ := h
    exact ⟨x, xs, e, Rep.keep hk hm r, RepL.keep hk hm q⟩
end
end

/-! ### what is told of a state and what comes of it -/
def Stays (o : HO) (r : Option HO) : Prop := r = some o ∨ ∃ ps, o = .tbl ps
/-- from μ, H to μ', H': the store grows by new cells; what never changes stays; what is no cell stays -/
structure Ext (μ : List Addr) (H : Hp) (μ' : List Addr) (H' : Hp) : Prop where
  pre : μ <+: μ'
  kept : Kept H H'
  frame : ∀ a o, H a = some o → a ∉ μ → Stays o (H' a)
  fresh : ∀ a, a ∈ μ' → a ∉ μ → H a = none ∨ ∃ ps, H a = some (.tbl ps)
theorem Stays.trans {o : HO} {r : Option HO} {r2 : Option HO} (h : Stays o r) (h2 : ∀ o', r = some o' → Stays o' r2) : Stays o r2 := by
  rcases h with e | ⟨ps, e⟩
  · exact h2 _ e
  · exact .inr ⟨ps, e⟩
theorem Ext.refl (μ : List Addr) (H : Hp) : Ext μ H μ H := ⟨List.prefix_refl _, .refl H, fun _ _ h _ => .inl h, fun _ h n => absurd h n⟩
theorem Ext.trans {μ μ1 μ2 : List Addr} {H H1 H2 : Hp} (a : Ext μ H μ1 H1) (b : Ext μ1 H1 μ2 H2) : Ext μ H μ2 H2 := by
  refine ⟨a.pre.trans b.pre, a.kept.trans b.kept, fun c o h n => ?_, fun c h n => ?_⟩
  · rcases a.frame c o h n with e | e
    · by_cases hc : c ∈ μ1
      · rcases a.fresh c hc n with z | ⟨ps, z⟩
        · rw [h] at z; cases z
        · rw [h] at z; cases z; exact .inr ⟨ps, rfl⟩
      · exact b.frame c o e hc
    · exact .inr e
  · by_cases hc : c ∈ μ1
    · exact a.fresh c hc n
    · cases e : H c with
      | none => exact .inl rfl
      | some o =>
        rcases a.frame c o e n with z | ⟨ps, z⟩
        · rcases b.fresh c h hc with q | ⟨ps, q⟩
          · rw [q] at z; cases z
          · rw [q] at z; cases z; exact .inr ⟨ps, rfl⟩
        · exact .inr ⟨ps, by rw [z]⟩
/-- a new object that is no cell -/
theorem Ext.new {μ : List Addr} {H : Hp} {p : Addr} {o : HO} (h : H p = none) : Ext μ H μ (upd H p o) :=
  ⟨List.prefix_refl _, .new h, fun a u e _ => .inl (by rw [upd_ne (ne_of_none e h)]; exact e), fun _ h n => absurd h n⟩
/-- a new cell -/
theorem Ext.cell {μ : List Addr} {H : Hp} {p : Addr} {o : HO} (h : H p = none) : Ext μ H (μ ++ [p]) (upd H p o) :=
  ⟨List.prefix_append _ _, .new h, fun a u e _ => .inl (by rw [upd_ne (ne_of_none e h)]; exact e), fun a q n => by
    rcases List.mem_append.mp q with z | z
    · exact absurd z n
    · rw [List.mem_singleton.mp z]; exact .inl h⟩
/-- a cell is changed -/
theorem Ext.mut {μ : List Addr} {H : Hp} {p : Addr} {o : HO} (hp : p ∈ μ) (h : Celled (H p)) : Ext μ H μ (upd H p o) :=
  ⟨List.prefix_refl _, .mut h, fun a u e n => .inl (by rw [upd_ne (fun z => n (by rw [z]; exact hp))]; exact e), fun _ h n => absurd h n⟩

def CRep (K : PySem.W.Frag) (μ : List Addr) (H : Hp) : C → Addr → Prop
  | .lst l, a => ∃ xs, H a = some (.lst xs) ∧ RepL K μ H l xs
  | .dic ks vs, a => ∃ xs, H a = some (.dK (ks.zip xs)) ∧ ks.length = vs.length ∧ RepL K μ H vs xs
  | .ins cl ns vs, a => ∃ dx xs, H a = some (.ins cl dx (ns.zip xs)) ∧ ns.length = vs.length ∧ RepL K μ H vs xs
  | .dead, a => ∃ o, H a = some o ∧ ∀ ps, o ≠ .tbl ps
theorem CRep.there {K : PySem.W.Frag} {μ : List Addr} {H : Hp} : ∀ {c : C} {a : Addr}, CRep K μ H c a → ∃ o, H a = some o
  | .lst _, _, ⟨_, e, _⟩ => ⟨_, e⟩
  | .dic _ _, _, ⟨_, e, _⟩ => ⟨_, e⟩
  | .ins _ _ _, _, ⟨_, _, e, _⟩ => ⟨_, e⟩
  | .dead, _, ⟨_, e, _⟩ => ⟨_, e⟩
theorem CRep.mut {K : PySem.W.Frag} {μ : List Addr} {H : Hp} : ∀ {c : C} {a : Addr}, c ≠ .dead → CRep K μ H c a → Mut (H a)
  | .lst _, _, _, ⟨_, e, _⟩ => by rw [e]; trivial
  | .dic _ _, _, _, ⟨_, e, _⟩ => by rw [e]; trivial
  | .ins _ _ _, _, _, ⟨_, _, e, _⟩ => by rw [e]; trivial
  | .dead, _, n, _ => absurd rfl n

/-- the store: its cells stand at the addresses μ, each by itself -/
structure Sto (T : List (Addr × Str)) (K : PySem.W.Frag) (μ : List Addr) (H : Hp) (m : List C) : Prop where
  len : μ.length = m.length
  nd : μ.Nodup
  rep : ∀ (n : Nat) (c : C) (a : Addr), m[n]? = some c → μ[n]? = some a → CRep K μ H c a
  tab : LamX.Tabs T H
theorem celled_mut {o : Option HO} (h : Celled o) : Mut o := by
  cases o with
  | none => exact h
  | some u => cases u <;> first | trivial | exact h
theorem CRep.celled {K : PySem.W.Frag} {μ : List Addr} {H : Hp} : ∀ {c : C} {a : Addr}, c ≠ .dead → CRep K μ H c a → Celled (H a)
  | .lst _, _, _, ⟨_, e, _⟩ => by rw [e]; trivial
  | .dic _ _, _, _, ⟨_, e, _⟩ => by rw [e]; trivial
  | .ins _ _ _, _, _, ⟨_, _, e, _⟩ => by rw [e]; trivial
  | .dead, _, n, _ => absurd rfl n
theorem tabs_new {T : List (Addr × Str)} {H : Hp} {p : Addr} {o : HO} (t : LamX.Tabs T H) (h : H p = none) : LamX.Tabs T (upd H p o) := t.ext fun b u e => by rw [upd_ne (ne_of_none e h)]; exact e
theorem tabs_set {T : List (Addr × Str)} {H : Hp} {p : Addr} {o : HO} (t : LamX.Tabs T H) (h : Celled (H p)) : LamX.Tabs T (upd H p o) := fun x hx => by
  obtain ⟨ps, h1, h2, h3⟩ := t x hx
  refine ⟨ps, ?_, h2, fun pos cv hc => ?_⟩
  · rw [upd_ne (fun z => by rw [← z, h1] at h; exact h)]
    exact h1
  · obtain ⟨c, e1, e2⟩ := h3 pos cv hc
    refine ⟨c, e1, ?_⟩
    rw [upd_ne (fun z => by
      rw [← z, e2] at h
      unfold LamX.CodeO at h
      exact h)]
    exact e2
theorem CRep.keep {K : PySem.W.Frag} {μ μ' : List Addr} {H H' : Hp} (hk : Kept H H') (hm : μ <+: μ') : ∀ {c : C} {a : Addr}, (∀ o, H a = some o → (∀ ps, o ≠ .tbl ps) → H' a = some o) → CRep K μ H c a → CRep K μ' H' c a
  | .lst _, _, s, ⟨xs, e, r⟩ => ⟨xs, s _ e (fun _ z => by cases z), r.keep hk hm⟩
  | .dic _ _, _, s, ⟨xs, e, n, r⟩ => ⟨xs, s _ e (fun _ z => by cases z), n, r.keep hk hm⟩
  | .ins _ _ _, _, s, ⟨dx, xs, e, n, r⟩ => ⟨dx, xs, s _ e (fun _ z => by cases z), n, r.keep hk hm⟩
  | .dead, _, s, ⟨_, e, n⟩ => ⟨_, s _ e n, n⟩
theorem Sto.mem {T : List (Addr × Str)} {K : PySem.W.Frag} {μ : List Addr} {H : Hp} {m : List C} (S : Sto T K μ H m) {a : Addr} (h : a ∈ μ) : ∃ o, H a = some o := by
  obtain ⟨n, hn, e⟩ := List.mem_iff_getElem.mp h
  have hm : n < m.length := by rw [← S.len]; exact hn
  exact (S.rep n m[n] a (List.getElem?_eq_getElem hm) (by rw [← e]; exact List.getElem?_eq_getElem hn)).there
/-- a new object that is no cell -/
theorem Sto.new {T : List (Addr × Str)} {K : PySem.W.Frag} {μ : List Addr} {H : Hp} {m : List C} {p : Addr} {o : HO} (S : Sto T K μ H m) (h : H p = none) : Sto T K μ (upd H p o) m :=
  ⟨S.len, S.nd, fun n c a e1 e2 => (S.rep n c a e1 e2).keep (.new h) (List.prefix_refl _) fun u e _ => by rw [upd_ne (ne_of_none e h)]; exact e, tabs_new S.tab h⟩
/-- a new cell -/
theorem Sto.cell {T : List (Addr × Str)} {K : PySem.W.Frag} {μ : List Addr} {H : Hp} {m : List C} {p : Addr} {o : HO} {c : C} (S : Sto T K μ H m) (h : H p = none) (hc : CRep K (μ ++ [p]) (upd H p o) c p) : Sto T K (μ ++ [p]) (upd H p o) (m ++ [c]) := by
  have np : p ∉ μ := fun z => by
    obtain ⟨u, e⟩ := S.mem z
    rw [h] at e
    cases e
  refine ⟨by simp [S.len], ?_, fun n d a e1 e2 => ?_, tabs_new S.tab h⟩
  · rw [List.nodup_append]
    exact ⟨S.nd, List.nodup_cons.mpr ⟨(fun z => nomatch z), List.nodup_nil⟩, fun x hx y hy z => np (by rw [← List.mem_singleton.mp hy, ← z]; exact hx)⟩
  · by_cases hn : n < m.length
    · rw [List.getElem?_append_left hn] at e1
      rw [List.getElem?_append_left (by rw [S.len]; exact hn)] at e2
      exact (S.rep n d a e1 e2).keep (.new h) (List.prefix_append _ _) fun u e _ => by rw [upd_ne (ne_of_none e h)]; exact e
    · rw [List.getElem?_append_right (Nat.le_of_not_lt hn)] at e1
      rw [List.getElem?_append_right (by rw [S.len]; exact Nat.le_of_not_lt hn)] at e2
      have h0 : n - m.length = 0 := by
        cases q : n - m.length with
        | zero => rfl
        | succ k => rw [q] at e1; simp at e1
      rw [h0] at e1
      rw [S.len, h0] at e2
      simp at e1 e2
      subst e1 e2
      exact hc
/-- a cell is changed -/
theorem Sto.set {T : List (Addr × Str)} {K : PySem.W.Frag} {μ : List Addr} {H : Hp} {m : List C} {n : Nat} {p : Addr} {o : HO} {c : C} (S : Sto T K μ H m) (hp : μ[n]? = some p) (h : Celled (H p)) (hc : CRep K μ (upd H p o) c p) : Sto T K μ (upd H p o) (m.set n c) := by
  refine ⟨by simp [S.len], S.nd, fun k d a e1 e2 => ?_, tabs_set S.tab h⟩
  by_cases hk : k = n
  · subst hk
    rw [e2] at hp
    cases hp
    have hl : k < m.length := by
      have := (List.getElem?_eq_some_iff.mp e1).1
      simpa using this
    rw [List.getElem?_set_self hl] at e1
    cases e1
    exact hc
  · rw [List.getElem?_set_ne (Ne.symm hk)] at e1
    have ne : a ≠ p := fun z => by
      subst z
      exact hk (nodup_ix' S.nd e2 hp)
    exact (S.rep k d a e1 e2).keep (.mut h) (List.prefix_refl _) fun u e _ => by rw [upd_ne ne]; exact e
where
  nodup_ix' {N : List Addr} (hN : N.Nodup) {i j : Nat} {x : Addr} (a : N[i]? = some x) (b : N[j]? = some x) : i = j := by
    obtain ⟨h1, e1⟩ := List.getElem?_eq_some_iff.mp a
    obtain ⟨h2, e2⟩ := List.getElem?_eq_some_iff.mp b
    exact (List.getElem_inj hN).mp (e1.trans e2.symm)

abbrev Env := List (Option D)
structure ERep (K : PySem.W.Frag) (μ : List Addr) (H : Hp) (ρ : Env) (σ : St) : Prop where
  len : ρ.length = σ.length
  get : ∀ (i : Nat) (d : D), ρ[i]? = some (some d) → ∃ v, σ[i]? = some (some v) ∧ Rep K μ H d v
theorem ERep.keep {K : PySem.W.Frag} {μ μ' : List Addr} {H H' : Hp} {ρ : Env} {σ : St} (hk : Kept H H') (hm : μ <+: μ') (h : ERep K μ H ρ σ) : ERep K μ' H' ρ σ :=
  ⟨h.len, fun i d e => let ⟨v, e1, r⟩ := h.get i d e; ⟨v, e1, r.keep hk hm⟩⟩
theorem ERep.ext {K : PySem.W.Frag} {μ μ' : List Addr} {H H' : Hp} {ρ : Env} {σ : St} (x : Ext μ H μ' H') (h : ERep K μ H ρ σ) : ERep K μ' H' ρ σ := h.keep x.kept x.pre
theorem ERep.set {K : PySem.W.Frag} {μ : List Addr} {H : Hp} {ρ : Env} {σ : St} {i : Nat} {d : D} {v : V} (h : ERep K μ H ρ σ) (r : Rep K μ H d v) : ERep K μ H (ρ.set i (some d)) (σ.set i (some v)) := by
  refine ⟨by simp [h.len], fun j e q => ?_⟩
  by_cases hj : j = i
  · subst hj
    have hl : j < ρ.length := by
      have := (List.getElem?_eq_some_iff.mp q).1
      simpa using this
    rw [List.getElem?_set_self hl] at q
    cases q
    exact ⟨v, by rw [List.getElem?_set_self (by rw [← h.len]; exact hl)], r⟩
  · rw [List.getElem?_set_ne (Ne.symm hj)] at q
    obtain ⟨w, e1, r1⟩ := h.get j e q
    exact ⟨w, by rw [List.getElem?_set_ne (Ne.symm hj)]; exact e1, r1⟩
theorem ERep.unset {K : PySem.W.Frag} {μ : List Addr} {H : Hp} {ρ : Env} {σ : St} {i : Nat} (h : ERep K μ H ρ σ) : ERep K μ H (ρ.set i none) (σ.set i none) := by
  refine ⟨by simp [h.len], fun j e q => ?_⟩
  by_cases hj : j = i
  · subst hj
    have hl : j < ρ.length := by
      have := (List.getElem?_eq_some_iff.mp q).1
      simpa using this
    rw [List.getElem?_set_self hl] at q
    cases q
  · rw [List.getElem?_set_ne (Ne.symm hj)] at q
    obtain ⟨w, e1, r1⟩ := h.get j e q
    exact ⟨w, by rw [List.getElem?_set_ne (Ne.symm hj)]; exact e1, r1⟩

/-- what an expression comes to: a value, an error of an own class with its fields, or nothing that is told -/
inductive R (α : Type) where
  | ok (a : α) (m : List C) | exc (c : Addr) (ns : List Str) (vs : List D) (m : List C) | no
  deriving Inhabited
def R.bind {α β : Type} (r : R α) (k : α → List C → R β) : R β :=
  match r with
  | .ok a m => k a m
  | .exc c ns vs m => .exc c ns vs m
  | .no => .no
@[simp] theorem R.bind_ok {α β : Type} (a : α) (m : List C) (k : α → List C → R β) : (R.ok a m).bind k = k a m := rfl
@[simp] theorem R.bind_exc {α β : Type} (c : Addr) (ns : List Str) (vs : List D) (m : List C) (k : α → List C → R β) : (R.exc c ns vs m : R α).bind k = .exc c ns vs m := rfl
@[simp] theorem R.bind_no {α β : Type} (k : α → List C → R β) : (R.no : R α).bind k = .no := rfl
abbrev ES := Env → List C → R D
abbrev LS := Env → List C → R (List D)
abbrev BS := Env → List C → R Bool
/-- what a statement comes to -/
inductive RS where
  | nx (ρ : Env) (m : List C) | rt (d : D) (m : List C) | bk (ρ : Env) (m : List C) | ct (ρ : Env) (m : List C)
  | ex (c : Addr) (ns : List Str) (vs : List D) (ρ : Env) (m : List C) | no
  deriving Inhabited
abbrev SS := Env → List C → RS

/-- an error's own fields -/
def XRep (K : PySem.W.Frag) (μ : List Addr) (H : Hp) (ns : List Str) (vs : List D) (od : Option Addr) : Prop :=
  (ns = [] ∧ vs = [] ∧ od = none) ∨ ns ≠ [] ∧ ∃ d xs, od = some d ∧ H d = some (.xd (ns.zip xs)) ∧ ns.length = vs.length ∧ RepL K μ H vs xs

section
variable {α β γ δ : Type}
/-- what is asked of a result -/
def Post (rp : List Addr → Hp → α → β → Prop) (T : List (Addr × Str)) (K : PySem.W.Frag) (W : WX) (σ : St) (μ : List Addr) (H : Hp) (r : R α) (Q : β → Hp → Prop) : Prop :=
  match r with
  | .ok a m' => ∀ μ' H' v, Ext μ H μ' H' → Sto T K μ' H' m' → rp μ' H' a v → Q v H'
  | .exc c ns vs m' => ∀ μ' H' od, Ext μ H μ' H' → Sto T K μ' H' m' → XRep K μ' H' ns vs od → W (.ref c) od σ H'
  | .no => False
variable {rp : List Addr → Hp → α → β → Prop} {rq : List Addr → Hp → γ → δ → Prop} {T : List (Addr × Str)} {K : PySem.W.Frag} {W : WX} {σ : St} {μ : List Addr} {H : Hp}
theorem Post.ext {μ' : List Addr} {H' : Hp} {r : R α} {Q : β → Hp → Prop} (x : Ext μ H μ' H') (h : Post rp T K W σ μ H r Q) : Post rp T K W σ μ' H' r Q := by
  cases r with
  | ok a m => exact fun μ2 H2 v y s q => h μ2 H2 v (x.trans y) s q
  | exc c ns vs m => exact fun μ2 H2 od y s q => h μ2 H2 od (x.trans y) s q
  | no => exact h
/-- from the whole to its first part -/
theorem Post.bind {r : R α} {k : α → List C → R γ} {Q : δ → Hp → Prop} {Q' : β → Hp → Prop} (h : Post rq T K W σ μ H (r.bind k) Q)
    (hq : ∀ a m' μ' H' v, Ext μ H μ' H' → Sto T K μ' H' m' → rp μ' H' a v → Post rq T K W σ μ' H' (k a m') Q → Q' v H') : Post rp T K W σ μ H r Q' := by
  cases r with
  | ok a m => exact fun μ2 H2 v y s q => hq a m μ2 H2 v y s q (Post.ext y h)
  | exc c ns vs m => exact h
  | no => exact h
/-- a reading by a function -/
def tG (rp : List Addr → Hp → α → β → Prop) (T : List (Addr × Str)) (K : PySem.W.Frag) (W : WX) (F : Env → List C → R α) : St → Hp → (β → Hp → Prop) → Prop :=
  fun σ H Q => ∃ μ ρ m, ERep K μ H ρ σ ∧ Sto T K μ H m ∧ Post rp T K W σ μ H (F ρ m) Q
end
def bRep : List Addr → Hp → Bool → Bool → Prop := fun _ _ a b => b = a
section
variable (X : Cx) (T : List (Addr × Str)) (W : WX)
/-- an expression's value is F -/
structure DE (e : Expr) (F : ES) : Prop where
  run : PE X e (tG (Rep X.K) T X.K W F)
structure DT (e : Expr) (F : BS) : Prop where
  run : PT X e (tG bRep T X.K W F)
structure DA (es : List Expr) (F : LS) : Prop where
  run : PA X es (tG (RepL X.K) T X.K W F)
end
theorem _root_.L2.PE.weak {X : Cx} {e : Expr} {t t' : TE} (h : PE X e t) (k : ∀ σ H Q, t' σ H Q → t σ H Q) : PE X e t' := ⟨fun pins s σ H Q I q => h.run pins s σ H Q I (k σ H Q q)⟩
theorem _root_.L2.PT.weak {X : Cx} {e : Expr} {t t' : TT} (h : PT X e t) (k : ∀ σ H Q, t' σ H Q → t σ H Q) : PT X e t' := ⟨fun pins s σ H Q I q => h.run pins s σ H Q I (k σ H Q q)⟩
theorem _root_.L2.PA.weak {X : Cx} {e : List Expr} {t t' : TA} (h : PA X e t) (k : ∀ σ H Q, t' σ H Q → t σ H Q) : PA X e t' := ⟨fun pos pins s σ H Q I q => h.run pos pins s σ H Q I (k σ H Q q)⟩
theorem _root_.L2.PS.weak {X : Cx} {e : Stmt} {t t' : TS} (h : PS X e t) (k : ∀ D σ H, t' D σ H → t D σ H) : PS X e t' := ⟨fun pins s σ H D I q => h.run pins s σ H D I (k D σ H q)⟩
theorem _root_.L2.PSs.weak {X : Cx} {e : List Stmt} {t t' : TS} (h : PSs X e t) (k : ∀ D σ H, t' D σ H → t D σ H) : PSs X e t' := ⟨fun pins s σ H D I q => h.run pins s σ H D I (k D σ H q)⟩
/-- the state at a reading's second part -/
theorem tG_mk {α β : Type} {rp : List Addr → Hp → α → β → Prop} {T : List (Addr × Str)} {K : PySem.W.Frag} {W : WX} {F : Env → List C → R α} {σ : St} {μ : List Addr} {H : Hp} {ρ : Env} {m : List C} {Q : β → Hp → Prop}
    (e : ERep K μ H ρ σ) (s : Sto T K μ H m) (h : Post rp T K W σ μ H (F ρ m) Q) : tG rp T K W F σ H Q := ⟨μ, ρ, m, e, s, h⟩
end DL


/-! DLb: expressions, tests, statements, defs of the tree layer. -/
namespace DL
open PySem PySem.Spec L2
open PyProof.Rows hiding St

/-! ### freezing, afterwards -/
def FQ (Q : VK) : VK := fun v H' => Q v H' ∨ ∃ a u, v = .ref a ∧ H' a = some u ∧ Mut (some u) ∧ ∀ od, Q v (upd H' a (.frz od u))
theorem ep_frz {X : Cx} {pins : List (Addr × Obj)} {σ : St} {Q : VK} {u : Value} {s : Shared} (h : EP X pins σ (FQ Q) u s) : EP X pins σ Q u s := by
  obtain ⟨v, H', I, r, q⟩ := h
  rcases q with q | ⟨a, u, rfl, e, mu, q⟩
  · exact ⟨v, H', I, r, q⟩
  · obtain ⟨od, I'⟩ := I.lock e mu
    exact ⟨_, _, I', r, q od⟩
theorem pe_frz {X : Cx} {e : Expr} {t : TE} (h : PE X e t) : PE X e (fun σ H Q => t σ H (FQ Q)) := ⟨fun pins s σ H Q I q => thn (h.run pins s σ H _ I q) fun _ _ z => ep_frz z⟩
theorem _root_.L2.OpR.frz {X : Cx} {f : Value → Value → Sem Value} {r : R2} (h : OpR X f r) : OpR X f (fun x y H Q => r x y H (FQ Q)) := fun pins s σ H x y v u Q I rx ry q => thn (h pins s σ H x y v u _ I rx ry q) fun _ _ z => ep_frz z
theorem _root_.L2.CallR.frz {X : Cx} {f : Value} {r : List V → Hp → VK → Prop} (h : CallR X f r) : CallR X f (fun xs H Q => r xs H (FQ Q)) := fun pins s σ H x v Q I rx q => thn (h pins s σ H x v _ I rx q) fun _ _ z => ep_frz z
theorem _root_.L2.MtR.frz {X : Cx} {id : String} {r : V → List V → Hp → VK → Prop} (h : MtR X id r) : MtR X id (fun x xs H Q => r x xs H (FQ Q)) := fun pins s σ H x xs v us Q I rx rs q => thn (h pins s σ H x xs v us _ I rx rs q) fun _ _ z => ep_frz z
theorem _root_.L2.SlR.frz {X : Cx} {r : V → Option Int → Option Int → Hp → VK → Prop} (h : SlR X r) : SlR X (fun x lo hi H Q => r x lo hi H (FQ Q)) := fun pins s σ H x v vl vu lo hi sl Q I rx hs pl pu q => by
  obtain ⟨T, id, h1, h2, h3⟩ := h pins s σ H x v vl vu lo hi sl _ I rx hs pl pu q
  exact ⟨T, id, h1, h2, thn h3 fun _ _ z => ep_frz z⟩

/-! ### reading the store -/
def lstOf (m : List C) : D → Option (List D)
  | .lst l => some l
  | .cell n => match m[n]? with
    | some (.lst l) => some l
    | _ => none
  | _ => none
def seqOf (m : List C) : D → Option (List D)
  | .tup l => some l
  | d => lstOf m d
section
variable {T : List (Addr × Str)} {K : PySem.W.Frag} {μ : List Addr} {H : Hp} {m : List C} {W : WX} {σ : St}
theorem RepL.length : ∀ {l : List D} {xs : List V}, RepL K μ H l xs → l.length = xs.length
  | [], _, h => by cases h; rfl
  | d :: l, _, h => by
    obtain ⟨x, xs, rfl, _, r⟩ := h
    exact congrArg (· + 1) (RepL.length r)
theorem RepL.get : ∀ {l : List D} {xs : List V} {i : Nat} {d : D}, RepL K μ H l xs → l[i]? = some d → ∃ v, xs[i]? = some v ∧ Rep K μ H d v
  | [], _, _, _, _, e => by simp at e
  | d :: l, _, 0, _, h, e => by
    obtain ⟨x, xs, rfl, r, _⟩ := h
    simp at e
    subst e
    exact ⟨x, rfl, r⟩
  | d :: l, _, i + 1, _, h, e => by
    obtain ⟨x, xs, rfl, _, r⟩ := h
    simp at e
    obtain ⟨v, e1, r1⟩ := RepL.get r e
    exact ⟨v, by simpa using e1, r1⟩
theorem RepL.get' {l : List D} {xs : List V} {i : Nat} {v : V} (h : RepL K μ H l xs) (e : xs[i]? = some v) : ∃ d, l[i]? = some d ∧ Rep K μ H d v := by
  have hi : i < l.length := by rw [h.length]; exact (List.getElem?_eq_some_iff.mp e).1
  obtain ⟨w, e1, r⟩ := h.get (List.getElem?_eq_getElem hi)
  rw [e] at e1
  cases e1
  exact ⟨_, List.getElem?_eq_getElem hi, r⟩
theorem RepL.nil : RepL K μ H [] [] := rfl
theorem RepL.cons {d : D} {l : List D} {x : V} {xs : List V} (a : Rep K μ H d x) (b : RepL K μ H l xs) : RepL K μ H (d :: l) (x :: xs) := ⟨x, xs, rfl, a, b⟩
theorem RepL.append : ∀ {l k : List D} {xs ys : List V}, RepL K μ H l xs → RepL K μ H k ys → RepL K μ H (l ++ k) (xs ++ ys)
  | [], _, _, _, h, q => by cases h; exact q
  | d :: l, _, _, _, h, q => by
    obtain ⟨x, xs, rfl, r, t⟩ := h
    exact ⟨x, _, rfl, r, RepL.append t q⟩
theorem RepL.take : ∀ {l : List D} {xs : List V} (n : Nat), RepL K μ H l xs → RepL K μ H (l.take n) (xs.take n)
  | _, _, 0, _ => rfl
  | [], _, _ + 1, h => by cases h; rfl
  | d :: l, _, n + 1, h => by
    obtain ⟨x, xs, rfl, r, t⟩ := h
    exact ⟨x, _, rfl, r, RepL.take n t⟩
theorem RepL.drop : ∀ {l : List D} {xs : List V} (n : Nat), RepL K μ H l xs → RepL K μ H (l.drop n) (xs.drop n)
  | _, _, 0, h => h
  | [], _, _ + 1, h => by cases h; rfl
  | d :: l, _, n + 1, h => by
    obtain ⟨x, xs, rfl, r, t⟩ := h
    exact RepL.drop n t
theorem RepL.set : ∀ {l : List D} {xs : List V} (i : Nat) {d : D} {v : V}, RepL K μ H l xs → Rep K μ H d v → RepL K μ H (l.set i d) (xs.set i v)
  | [], _, _, _, _, h, _ => by cases h; rfl
  | d :: l, _, 0, _, _, h, q => by
    obtain ⟨x, xs, rfl, r, t⟩ := h
    exact ⟨_, _, rfl, q, t⟩
  | d :: l, _, n + 1, _, _, h, q => by
    obtain ⟨x, xs, rfl, r, t⟩ := h
    exact ⟨x, _, rfl, r, RepL.set n t q⟩
theorem RepL.ext {μ' : List Addr} {H' : Hp} {l : List D} {xs : List V} (x : Ext μ H μ' H') (h : RepL K μ H l xs) : RepL K μ' H' l xs := h.keep x.kept x.pre
theorem Rep.ext {μ' : List Addr} {H' : Hp} {d : D} {v : V} (x : Ext μ H μ' H') (h : Rep K μ H d v) : Rep K μ' H' d v := h.keep x.kept x.pre
theorem Sto.at (S : Sto T K μ H m) {n : Nat} {c : C} (e : m[n]? = some c) : ∃ a, μ[n]? = some a ∧ CRep K μ H c a := by
  have hn : n < μ.length := by rw [S.len]; exact (List.getElem?_eq_some_iff.mp e).1
  exact ⟨μ[n], List.getElem?_eq_getElem hn, S.rep n c _ e (List.getElem?_eq_getElem hn)⟩
theorem lstOf_rd (S : Sto T K μ H m) {d : D} {v : V} {l : List D} (r : Rep K μ H d v) (e : lstOf m d = some l) : ∃ a xs, v = .ref a ∧ Rd H a (.lst xs) ∧ RepL K μ H l xs := by
  cases d with
  | lst k =>
    cases e
    obtain ⟨a, xs, rfl, f, q⟩ := r
    exact ⟨a, xs, rfl, .inr f, q⟩
  | cell n =>
    obtain ⟨a, ea, rfl⟩ := r
    unfold lstOf at e
    cases hm : m[n]? with
    | none => simp [hm] at e
    | some c =>
      cases c with
      | lst k =>
        simp only [hm, Option.some.injEq] at e
        subst e
        obtain ⟨xs, ex, q⟩ := S.rep n _ a hm ea
        exact ⟨a, xs, rfl, .inl ex, q⟩
      | _ => simp [hm] at e
  | _ => cases e
theorem lstOf_rep (S : Sto T K μ H m) {d : D} {v : V} {l : List D} (r : Rep K μ H d v) (e : lstOf m d = some l) : ∃ a xs, v = .ref a ∧ SqL K H a xs ∧ RepL K μ H l xs := by
  cases d with
  | lst k =>
    cases e
    obtain ⟨a, xs, rfl, f, q⟩ := r
    exact ⟨a, xs, rfl, f.sql, q⟩
  | cell n =>
    obtain ⟨a, ea, rfl⟩ := r
    unfold lstOf at e
    cases hm : m[n]? with
    | none => simp [hm] at e
    | some c =>
      cases c with
      | lst k =>
        simp only [hm, Option.some.injEq] at e
        subst e
        obtain ⟨xs, ex, q⟩ := S.rep n _ a hm ea
        exact ⟨a, xs, rfl, SqL.of ex, q⟩
      | _ => simp [hm] at e
  | _ => cases e
theorem seqOf_rep (S : Sto T K μ H m) {d : D} {v : V} {l : List D} (r : Rep K μ H d v) (e : seqOf m d = some l) : ∃ a xs, v = .ref a ∧ (SqL K H a xs ∨ SqT K H a xs) ∧ RepL K μ H l xs := by
  cases d with
  | tup k =>
    cases e
    obtain ⟨a, xs, rfl, f, q⟩ := r
    exact ⟨a, xs, rfl, .inr f.sqt, q⟩
  | _ =>
    obtain ⟨a, xs, e1, s, q⟩ := lstOf_rep S r e
    exact ⟨a, xs, e1, .inl s, q⟩

/-! ### new objects -/
theorem post_newL {l : List D} {xs : List V} {Q : VK} (S : Sto T K μ H m) (r : RepL K μ H l xs) (h : Post (Rep K) T K W σ μ H (.ok (.lst l) m) Q) : ∀ p, H p = none → FQ Q (.ref p) (upd H p (.lst xs)) := fun p hp =>
  .inr ⟨p, .lst xs, rfl, upd_same, trivial, fun od => by
    rw [upd_upd]
    have x : Ext μ H μ (upd H p (.frz od (.lst xs))) := .new hp
    exact h μ _ _ x (S.new hp) ⟨p, xs, rfl, ⟨od, upd_same⟩, r.ext x⟩⟩
theorem post_newT {l : List D} {xs : List V} {Q : VK} (S : Sto T K μ H m) (r : RepL K μ H l xs) (h : Post (Rep K) T K W σ μ H (.ok (.tup l) m) Q) : ∀ p o, o.dict = none → H p = none → Q (.ref p) (upd H p (.frz o (.tup xs))) := fun p o ho hp => by
  have x : Ext μ H μ (upd H p (.frz o (.tup xs))) := .new hp
  exact h μ _ _ x (S.new hp) ⟨p, xs, rfl, .inl ⟨o, upd_same, ho⟩, r.ext x⟩
theorem post_newC {l : List D} {xs : List V} {Q : VK} (S : Sto T K μ H m) (r : RepL K μ H l xs) (h : Post (Rep K) T K W σ μ H (.ok (.cell m.length) (m ++ [.lst l])) Q) : ∀ p, H p = none → Q (.ref p) (upd H p (.lst xs)) := fun p hp => by
  have x : Ext μ H (μ ++ [p]) (upd H p (.lst xs)) := .cell hp
  exact h _ _ _ x (S.cell hp ⟨xs, upd_same, r.ext x⟩) ⟨p, by rw [← S.len]; simp, rfl⟩
/-- the value at hand -/
theorem post_here {α β : Type} {rp : List Addr → Hp → α → β → Prop} {a : α} {v : β} {Q : β → Hp → Prop} (S : Sto T K μ H m) (r : rp μ H a v) (h : Post rp T K W σ μ H (.ok a m) Q) : Q v H := h μ H v (.refl μ H) S r
end

/-! ### tuples whose object is known -/
theorem _root_.L2.Inv.laidT {X : Cx} {pins : List (Addr × Obj)} {σ : L2.St} {H : Hp} {s : Shared} {xs : List V} {its : List Value} {tk : Nat} (I : Inv X pins σ H s) (hz : xs.length ≤ sizeLine) (r : Vals xs its) :
    Inv X pins σ (upd H s.heap.objs.size (.frz { cls := .type "tuple", data := .seq its.toArray } (.tup xs))) { s with heap := s.heap.push { cls := .type "tuple", data := .seq its.toArray }, toks := tk } :=
  I.laid (t' := tk) (fun b u e => Heap.get?_push_of_some _ e) (Nat.le_refl _) ⟨Heap.get?_push_size _ rfl, hz, its, r, ⟨_, Heap.get?_push_size _ rfl, rfl, _, rfl⟩⟩
def tTupF (t : TA) : TE := fun σ H Q => t σ H fun xs H1 => xs.length ≤ sizeLine ∧ ∀ p o, o.dict = none → H1 p = none → Q (.ref p) (upd H1 p (.frz o (.tup xs)))
theorem pe_tupF {X : Cx} {es : List Expr} {t : TA} {pos : Pos} {x1} (h : PA X es t) : PE X (.Tuple es x1 pos) (tTupF t) := by
  refine ⟨fun pins s σ H Q I hq => ?_⟩
  refine wpAny_Tuple_spliced (thn (h.run pos pins s σ H _ I hq) fun us s1 ⟨xs, H1, I1, r, z, q⟩ => ⟨by rw [← r.length]; exact z, ?_⟩)
  exact ⟨.ref s1.heap.objs.size, _, I1.laidT (tk := s1.toks) z r, rfl, q _ _ rfl (I1.hok.fresh (Nat.le_refl _))⟩

/-! ### names, constants, displays -/
def eVar (i : Nat) : ES := fun ρ m => match ρ[i]? with
  | some (some d) => .ok d m
  | _ => .no
def eC (d : D) : ES := fun _ m => .ok d m
def aNil : LS := fun _ m => .ok [] m
def aCons (F : ES) (G : LS) : LS := fun ρ m => (F ρ m).bind fun d m1 => (G ρ m1).bind fun l m2 => .ok (d :: l) m2
/-- a size that fits -/
def fits (n : Nat) : Bool := decide (n ≤ 16777216)
theorem fits_iff {n : Nat} : fits n = true ↔ n ≤ sizeLine := by unfold fits; rw [sizeLine_eq]; simp
def eTup (F : LS) : ES := fun ρ m => (F ρ m).bind fun l m1 => if fits l.length then .ok (.tup l) m1 else .no
/-- a list that is not written later -/
def eLst (F : LS) : ES := fun ρ m => (F ρ m).bind fun l m1 => if fits l.length then .ok (.lst l) m1 else .no
/-- a list that is a cell -/
def eLstC (F : LS) : ES := fun ρ m => (F ρ m).bind fun l m1 => if fits l.length then .ok (.cell m1.length) (m1 ++ [.lst l]) else .no
section
variable {X : Cx} {T : List (Addr × Str)} {W : WX} {a b e : Expr} {es : List Expr} {Fa Fb F : ES} {G : LS} {pos : Pos}
theorem de_var {i : Nat} {x : Str} (h : PE X (.Name x pos) (tVar i)) : DE X T W (.Name x pos) (eVar i) := ⟨h.weak fun σ H Q ⟨μ, ρ, m, e, s, q⟩ => by
  unfold eVar at q
  split at q
  · rename_i d hd
    obtain ⟨v, e1, r⟩ := e.get i d hd
    exact ⟨v, e1, post_here s r q⟩
  · exact q.elim⟩
theorem de_c {d : D} {v : V} (h : PE X e (tC v)) (hr : ∀ μ H, Rep X.K μ H d v) : DE X T W e (eC d) := ⟨h.weak fun σ H Q ⟨μ, ρ, m, e, s, q⟩ => post_here s (hr μ H) q⟩
theorem de_int {i : Int} {j} : DE X T W (.Constant (.int i) j pos) (eC (.int i)) := de_c pe_int fun _ _ => rfl
theorem de_bl {i : Bool} {j} : DE X T W (.Constant (.bool i) j pos) (eC (.bl i)) := de_c pe_bl fun _ _ => rfl
theorem de_non {j} : DE X T W (.Constant .none j pos) (eC .non) := de_c pe_non fun _ _ => rfl
theorem de_str {x : Str} {j} : DE X T W (.Constant (.str x) j pos) (eC (.str x)) := de_c pe_str fun _ _ => rfl
theorem da_nil : DA X T W [] aNil := ⟨pa_nil.weak fun σ H Q ⟨μ, ρ, m, e, s, q⟩ => post_here (a := []) s rfl q⟩
theorem da_cons (ha : DE X T W a Fa) (hb : DA X T W es G) (hs : starEach (a :: es) X.env = (false, eval a X.env) :: starEach es X.env := by rfl) : DA X T W (a :: es) (aCons Fa G) :=
  ⟨(pa_cons ha.run hb.run hs).weak fun σ H Q ⟨μ, ρ, m, e, s, q⟩ => tG_mk e s (q.bind fun d m1 μ1 H1 x x1 s1 r1 q1 => tG_mk (e.ext x1) s1 (q1.bind fun l m2 μ2 H2 xs x2 s2 r2 q2 => post_here s2 (rp := RepL X.K) (a := d :: l) (RepL.cons (r1.ext x2) r2) q2))⟩
theorem de_tup {x1} (h : DA X T W es G) : DE X T W (.Tuple es x1 pos) (eTup G) := ⟨(pe_tupF h.run).weak fun σ H Q ⟨μ, ρ, m, e, s, q⟩ => tG_mk e s (q.bind fun l m1 μ1 H1 xs x1 s1 r1 q1 => by
  split at q1
  · rename_i hf
    refine ⟨by rw [← r1.length]; exact fits_iff.mp hf, post_newT s1 r1 q1⟩
  · exact q1.elim)⟩
theorem de_lst (h : DA X T W es G) : DE X T W (.List es pos) (eLst G) := ⟨(pe_frz (pe_lst h.run)).weak fun σ H Q ⟨μ, ρ, m, e, s, q⟩ => tG_mk e s (q.bind fun l m1 μ1 H1 xs x1 s1 r1 q1 => by
  split at q1
  · rename_i hf
    refine ⟨by rw [← r1.length]; exact fits_iff.mp hf, post_newL s1 r1 q1⟩
  · exact q1.elim)⟩
theorem de_lstC (h : DA X T W es G) : DE X T W (.List es pos) (eLstC G) := ⟨(pe_lst h.run).weak fun σ H Q ⟨μ, ρ, m, e, s, q⟩ => tG_mk e s (q.bind fun l m1 μ1 H1 xs x1 s1 r1 q1 => by
  split at q1
  · rename_i hf
    refine ⟨by rw [← r1.length]; exact fits_iff.mp hf, post_newC s1 r1 q1⟩
  · exact q1.elim)⟩

/-! ### operations on values -/
def OpD (X : Cx) (T : List (Addr × Str)) (f : D → D → List C → R D) (r : R2) : Prop := ∀ (W : WX) (σ : St) (μ : List Addr) (H : Hp) (m : List C) (d1 d2 : D) (x y : V) (Q : VK),
  Sto T X.K μ H m → Rep X.K μ H d1 x → Rep X.K μ H d2 y → Post (Rep X.K) T X.K W σ μ H (f d1 d2 m) Q → r x y H Q
def UnD (X : Cx) (T : List (Addr × Str)) (f : D → List C → R D) (r : V → Hp → VK → Prop) : Prop := ∀ (W : WX) (σ : St) (μ : List Addr) (H : Hp) (m : List C) (d1 : D) (x : V) (Q : VK),
  Sto T X.K μ H m → Rep X.K μ H d1 x → Post (Rep X.K) T X.K W σ μ H (f d1 m) Q → r x H Q
def ArD (X : Cx) (T : List (Addr × Str)) (f : List D → List C → R D) (r : List V → Hp → VK → Prop) : Prop := ∀ (W : WX) (σ : St) (μ : List Addr) (H : Hp) (m : List C) (ds : List D) (xs : List V) (Q : VK),
  Sto T X.K μ H m → RepL X.K μ H ds xs → Post (Rep X.K) T X.K W σ μ H (f ds m) Q → r xs H Q
def eBin (f : D → D → List C → R D) (Fa Fb : ES) : ES := fun ρ m => (Fa ρ m).bind fun x m1 => (Fb ρ m1).bind fun y m2 => f x y m2
def eUn (f : D → List C → R D) (Fa : ES) : ES := fun ρ m => (Fa ρ m).bind fun x m1 => f x m1
def eAr (f : List D → List C → R D) (G : LS) : ES := fun ρ m => (G ρ m).bind fun l m1 => f l m1
variable {f : D → D → List C → R D} {r : R2}
theorem tOp_D (hf : OpD X T f r) (ha : DE X T W a Fa) (hb : DE X T W b Fb) : ∀ σ H Q, tG (Rep X.K) T X.K W (eBin f Fa Fb) σ H Q → tOp r (tG (Rep X.K) T X.K W Fa) (tG (Rep X.K) T X.K W Fb) σ H Q :=
  fun σ H Q ⟨μ, ρ, m, e, s, q⟩ => tG_mk e s (q.bind fun d1 m1 μ1 H1 x x1 s1 r1 q1 => tG_mk (e.ext x1) s1 (q1.bind fun d2 m2 μ2 H2 y x2 s2 r2 q2 => hf W σ μ2 H2 m2 d1 d2 x y Q s2 (r1.ext x2) r2 q2))
theorem de_bin {op : Operator} (ho : OpR X (binaryOp op) r) (hf : OpD X T f r) (ha : DE X T W a Fa) (hb : DE X T W b Fb) : DE X T W (.BinOp a op b pos) (eBin f Fa Fb) := ⟨(pe_op ho ha.run hb.run).weak (tOp_D hf ha hb)⟩
theorem de_cmp {op : CmpOp} (ho : OpR X (compareOp op) r) (hf : OpD X T f r) (ha : DE X T W a Fa) (hb : DE X T W b Fb) (hm : behindInMarks op b = false := by first | exact nomark _ | rfl) : DE X T W (.Compare a [op] [b] pos) (eBin f Fa Fb) := ⟨(pe_cmpR ho ha.run hb.run hm).weak (tOp_D hf ha hb)⟩
theorem de_ix (ho : IxR X r) (hf : OpD X T f r) (ha : DE X T W a Fa) (hb : DE X T W b Fb) (hs : PlainIx b := by exact fun _ _ => rfl) : DE X T W (.Subscript a b pos) (eBin f Fa Fb) := ⟨(pe_ix ho ha.run hb.run hs).weak (tOp_D hf ha hb)⟩
theorem de_un {op : UnaryOp} {f : D → List C → R D} {r : V → Hp → VK → Prop} (ho : UnR X (unaryOp op) r) (hf : UnD X T f r) (ha : DE X T W a Fa) : DE X T W (.UnaryOp op a pos) (eUn f Fa) :=
  ⟨(pe_un ho ha.run).weak fun σ H Q ⟨μ, ρ, m, e, s, q⟩ => tG_mk e s (q.bind fun d1 m1 μ1 H1 x x1 s1 r1 q1 => hf W σ μ1 H1 m1 d1 x Q s1 r1 q1)⟩
theorem tCB_D {f : List D → List C → R D} {r : List V → Hp → VK → Prop} (hf : ArD X T f r) (hG : DA X T W es G) : ∀ σ H Q, tG (Rep X.K) T X.K W (eAr f G) σ H Q → tCB r (tG (RepL X.K) T X.K W G) σ H Q :=
  fun σ H Q ⟨μ, ρ, m, e, s, q⟩ => tG_mk e s (q.bind fun l m1 μ1 H1 xs x1 s1 r1 q1 => hf W σ μ1 H1 m1 l xs Q s1 r1 q1)
/-- a built-in function, a built-in class called -/
theorem de_callB {id : String} {x : Str} {p : Pos} {f : List D → List C → R D} {r : List V → Hp → VK → Prop} (hc : CallR X (.builtin id) r) (hf : ArD X T f r) (hG : DA X T W (e :: es) G) (hm : X.mg x = none) (hv : bootBuiltins x = some (.builtin id) := by decide +kernel) (hg : Gl X x := by rfl) (hn : x ≠ "__name__" := by decide) (hdb : (x == ("__debug__" : Str)) = false := by decide)
    (he : starEach (e :: es) X.env = (false, eval e X.env) :: starEach es X.env := by rfl) (hpl : (backTo pos (starEach es X.env)).any (·.1) = false := by rfl) : DE X T W (.Call (.Name x p) (e :: es) [] pos) (eAr f G) := ⟨(pe_callB hc hg hm hv hG.run hn hdb he hpl).weak (tCB_D hf hG)⟩
theorem de_callTy {id : String} {x : Str} {p : Pos} {f : List D → List C → R D} {r : List V → Hp → VK → Prop} (hc : CallR X (.type id) r) (hf : ArD X T f r) (hG : DA X T W (e :: es) G) (hm : X.mg x = none) (hv : bootBuiltins x = some (.type id) := by decide +kernel) (hg : Gl X x := by rfl) (hn : x ≠ "__name__" := by decide) (hdb : (x == ("__debug__" : Str)) = false := by decide)
    (he : starEach (e :: es) X.env = (false, eval e X.env) :: starEach es X.env := by rfl) (hpl : (backTo pos (starEach es X.env)).any (·.1) = false := by rfl) : DE X T W (.Call (.Name x p) (e :: es) [] pos) (eAr f G) := ⟨(pe_callTy hc hg hm hv hG.run hn hdb he hpl).weak (tCB_D hf hG)⟩
end
end DL


/-! DLc: tests, and | or | not, statements, defs of the tree layer. -/
namespace DL
open PySem PySem.Spec L2
open PyProof.Rows hiding St

/-! ### tests -/
def bTest (F : ES) : BS := fun ρ m => (F ρ m).bind fun d m1 => match d with
  | .bl b => .ok b m1
  | _ => .no
/-- a value's truth -/
def truD (m : List C) : D → Option Bool
  | .non => some false
  | .bl b => some b
  | .int i => some (i != 0)
  | .str x => if fits x.length then some ((x.length : Int) != 0) else none
  | .tup l => some (!l.isEmpty)
  | .lst l => some (!l.isEmpty)
  | .cell n => match m[n]? with
    | some (.lst l) => some (!l.isEmpty)
    | some (.dic ks _) => some (!ks.isEmpty)
    | _ => none
  | _ => none
def bTru (F : ES) : BS := fun ρ m => (F ρ m).bind fun d m1 => match truD m1 d with
  | some b => .ok b m1
  | none => .no
section
variable {T : List (Addr × Str)} {K : PySem.W.Frag} {μ : List Addr} {H : Hp} {m : List C}
theorem RepL.isEmpty {l : List D} {xs : List V} (r : RepL K μ H l xs) : l.isEmpty = xs.isEmpty := by
  cases l with
  | nil => cases r; rfl
  | cons d l =>
    obtain ⟨x, ys, rfl, _⟩ := r
    rfl
theorem truD_rep (S : Sto T K μ H m) {d : D} {v : V} {b : Bool} (r : Rep K μ H d v) (e : truD m d = some b) : TruV K v H b := by
  cases d with
  | non => cases r; cases e; rfl
  | bl _ => cases r; cases e; rfl
  | int _ => cases r; cases e; rfl
  | str x =>
    cases r
    change (if fits x.length then some ((x.length : Int) != 0) else none) = some b at e
    split at e
    · rename_i hf
      cases e
      exact ⟨fits_iff.mp hf, rfl⟩
    · cases e
  | tup l =>
    obtain ⟨a, xs, rfl, s, q⟩ := r
    cases e
    exact .inr (.inl ⟨xs, s.sqt, by rw [q.isEmpty]⟩)
  | lst l =>
    obtain ⟨a, xs, rfl, s, q⟩ := r
    cases e
    exact .inl ⟨xs, s.sql, by rw [q.isEmpty]⟩
  | cell n =>
    obtain ⟨a, ea, rfl⟩ := r
    unfold truD at e
    cases hm : m[n]? with
    | none => simp [hm] at e
    | some c =>
      cases c with
      | lst k =>
        simp only [hm, Option.some.injEq] at e
        subst e
        obtain ⟨xs, ex, q⟩ := S.rep n _ a hm ea
        exact .inl ⟨xs, SqL.of ex, by rw [q.isEmpty]⟩
      | dic ks vs =>
        simp only [hm, Option.some.injEq] at e
        subst e
        obtain ⟨xs, ex, hl, q⟩ := S.rep n _ a hm ea
        refine .inr (.inr ⟨_, ex, ?_⟩)
        have := q.length
        cases ks with
        | nil => simp
        | cons k ks =>
          cases xs with
          | nil => simp at this; simp [this] at hl
          | cons x xs => simp
      | _ => simp [hm] at e
  | _ => cases e
end
def bAnd (F G : BS) : BS := fun ρ m => (F ρ m).bind fun b m1 => if b then G ρ m1 else .ok false m1
def bOr (F G : BS) : BS := fun ρ m => (F ρ m).bind fun b m1 => if b then .ok true m1 else G ρ m1
def bNot (F : BS) : BS := fun ρ m => (F ρ m).bind fun b m1 => .ok (!b) m1
def eIf (F : BS) (G G' : ES) : ES := fun ρ m => (F ρ m).bind fun b m1 => if b then G ρ m1 else G' ρ m1
def eAnd (F G : ES) : ES := fun ρ m => (F ρ m).bind fun d m1 => match truD m1 d with
  | some true => G ρ m1
  | some false => .ok d m1
  | none => .no
def eOr (F G : ES) : ES := fun ρ m => (F ρ m).bind fun d m1 => match truD m1 d with
  | some true => .ok d m1
  | some false => G ρ m1
  | none => .no
def eNot (F : ES) : ES := fun ρ m => (F ρ m).bind fun d m1 => match truD m1 d with
  | some b => .ok (.bl (!b)) m1
  | none => .no
def eChain (f g : D → D → List C → R D) (Fa Fb Fc : ES) : ES := fun ρ m => (Fa ρ m).bind fun x m1 => (Fb ρ m1).bind fun y m2 => (f x y m2).bind fun d m3 => match d with
  | .bl true => (Fc ρ m3).bind fun z m4 => g y z m4
  | .bl false => .ok (.bl false) m3
  | _ => .no
section
variable {X : Cx} {T : List (Addr × Str)} {W : WX} {a b c e : Expr} {es rest : List Expr} {Fa Fb Fc F : ES} {A B : BS} {G : LS} {pos : Pos}
structure DW (X : Cx) (T : List (Addr × Str)) (W : WX) (e : Expr) (F : BS) : Prop where
  run : PW X e (tG bRep T X.K W F)
theorem DW.dt (h : DW X T W e A) : DT X T W e A := ⟨h.run.pt⟩
theorem tTest_D {t : TE} (h : ∀ σ H Q, tG (Rep X.K) T X.K W F σ H Q → t σ H Q) : ∀ σ H Q, tG bRep T X.K W (bTest F) σ H Q → tTest t σ H Q :=
  fun σ H Q ⟨μ, ρ, m, e, s, q⟩ => h σ H _ (tG_mk e s (q.bind fun d m1 μ1 H1 x x1 s1 r1 q1 => by
    cases d with
    | bl b =>
      cases r1
      exact ⟨b, rfl, post_here (rp := bRep) s1 rfl q1⟩
    | _ => exact q1.elim))
theorem dt_cmp {op : CmpOp} {f : D → D → List C → R D} {r : R2} (ho : OpR X (compareOp op) r) (hf : OpD X T f r) (ha : DE X T W a Fa) (hb : DE X T W b Fb) (hm : behindInMarks op b = false := by first | exact nomark _ | rfl) : DT X T W (.Compare a [op] [b] pos) (bTest (eBin f Fa Fb)) :=
  ⟨(pt_cmpR ho ha.run hb.run hm).weak (tTest_D (tOp_D hf ha hb))⟩
theorem dt_tru (ha : DE X T W a Fa) (he : ∀ whole, isTrue a X.env whole = (do let v ← whole; standAt a.pos; holding [v] (truthy v)) := by intro _; rfl) : DT X T W a (bTru Fa) :=
  ⟨(pt_truth ha.run he).weak fun σ H Q ⟨μ, ρ, m, e, s, q⟩ => tG_mk e s (q.bind fun d m1 μ1 H1 x x1 s1 r1 q1 => by
    split at q1
    · rename_i b hb
      exact ⟨b, truD_rep s1 r1 hb, post_here (rp := bRep) s1 rfl q1⟩
    · exact q1.elim)⟩
theorem tChain_D {f g : D → D → List C → R D} {r r' : R2} (hf : OpD X T f r) (hg : OpD X T g r') (ha : DE X T W a Fa) (hb : DE X T W b Fb) (hc : DE X T W c Fc) :
    ∀ σ H Q, tG (Rep X.K) T X.K W (eChain f g Fa Fb Fc) σ H Q → tChain r r' (tG (Rep X.K) T X.K W Fa) (tG (Rep X.K) T X.K W Fb) (tG (Rep X.K) T X.K W Fc) σ H Q :=
  fun σ H Q ⟨μ, ρ, m, e, s, q⟩ => tG_mk e s (q.bind fun d1 m1 μ1 H1 x x1 s1 r1 q1 => tG_mk (e.ext x1) s1 (q1.bind fun d2 m2 μ2 H2 y x2 s2 r2 q2 => hf W σ μ2 H2 m2 d1 d2 x y _ s2 (r1.ext x2) r2 (q2.bind fun d3 m3 μ3 H3 z x3 s3 r3 q3 => by
    cases d3 with
    | bl k =>
      cases r3
      refine ⟨k, rfl, ?_⟩
      cases k with
      | false => exact iteF (post_here (a := D.bl false) s3 rfl q3)
      | true => exact iteT (tG_mk (((e.ext x1).ext x2).ext x3) s3 (q3.bind fun d4 m4 μ4 H4 z x4 s4 r4 q4 => hg W σ μ4 H4 m4 d2 d4 y z Q s4 ((r2.ext x3).ext x4) r4 q4))
    | _ => exact q3.elim)))
theorem de_chain {op op' : CmpOp} {f g : D → D → List C → R D} {r r' : R2} (ho : OpR X (compareOp op) r) (ho' : OpR X (compareOp op') r') (hf : OpD X T f r) (hg : OpD X T g r') (ha : DE X T W a Fa) (hb : DE X T W b Fb) (hc : DE X T W c Fc)
    (hm : lastMarks [op, op'] [b, c] = false := by with_unfolding_all rfl) : DE X T W (.Compare a [op, op'] [b, c] pos) (eChain f g Fa Fb Fc) := ⟨(pe_chain ho ho' ha.run hb.run hc.run hm).weak (tChain_D hf hg ha hb hc)⟩
theorem dt_chain {op op' : CmpOp} {f g : D → D → List C → R D} {r r' : R2} (ho : OpR X (compareOp op) r) (ho' : OpR X (compareOp op') r') (hf : OpD X T f r) (hg : OpD X T g r') (ha : DE X T W a Fa) (hb : DE X T W b Fb) (hc : DE X T W c Fc)
    (hm : lastMarks [op, op'] [b, c] = false := by with_unfolding_all rfl) : DT X T W (.Compare a [op, op'] [b, c] pos) (bTest (eChain f g Fa Fb Fc)) := ⟨(pt_chain ho ho' ha.run hb.run hc.run hm).weak (tTest_D (tChain_D hf hg ha hb hc))⟩
theorem dw_and1 (h : DT X T W a A) : DW X T W (.BoolOp .And [a] pos) A := ⟨pw_and1 h.run⟩
theorem dw_or1 (h : DT X T W a A) : DW X T W (.BoolOp .Or [a] pos) A := ⟨pw_or1 h.run⟩
theorem _root_.L2.PW.weak {X : Cx} {e : Expr} {t t' : TT} (h : PW X e t) (k : ∀ σ H Q, t' σ H Q → t σ H Q) : PW X e t' := ⟨fun wh pins s σ H Q I q => h.run wh pins s σ H Q I (k σ H Q q)⟩
theorem dw_and (ha : DT X T W a A) (hb : DW X T W (.BoolOp .And (b :: rest) pos) B) : DW X T W (.BoolOp .And (a :: b :: rest) pos) (bAnd A B) :=
  ⟨(pw_and ha.run hb.run).weak fun σ H Q ⟨μ, ρ, m, e, s, q⟩ => tG_mk e s (q.bind fun k m1 μ1 H1 x x1 s1 r1 q1 => by
    cases r1
    cases k with
    | true => exact iteT (tG_mk (e.ext x1) s1 q1)
    | false => exact iteF (post_here (rp := bRep) (a := false) s1 rfl q1))⟩
theorem dw_or (ha : DT X T W a A) (hb : DW X T W (.BoolOp .Or (b :: rest) pos) B) : DW X T W (.BoolOp .Or (a :: b :: rest) pos) (bOr A B) :=
  ⟨(pw_or ha.run hb.run).weak fun σ H Q ⟨μ, ρ, m, e, s, q⟩ => tG_mk e s (q.bind fun k m1 μ1 H1 x x1 s1 r1 q1 => by
    cases r1
    cases k with
    | false => exact iteF (tG_mk (e.ext x1) s1 q1)
    | true => exact iteT (post_here (rp := bRep) (a := true) s1 rfl q1))⟩
theorem dt_not (ha : DT X T W a A) : DT X T W (.UnaryOp .Not a pos) (bNot A) :=
  ⟨(pt_not ha.run).weak fun σ H Q ⟨μ, ρ, m, e, s, q⟩ => tG_mk e s (q.bind fun k m1 μ1 H1 x x1 s1 r1 q1 => by
    cases r1
    exact post_here (rp := bRep) (a := !k) s1 rfl q1)⟩
theorem de_if (hc : DT X T W c A) (ha : DE X T W a Fa) (hb : DE X T W b Fb) : DE X T W (.IfExp c a b pos) (eIf A Fa Fb) :=
  ⟨(pe_ifExp hc.run ha.run hb.run).weak fun σ H Q ⟨μ, ρ, m, e, s, q⟩ => tG_mk e s (q.bind fun k m1 μ1 H1 x x1 s1 r1 q1 => by
    cases r1
    cases k with
    | true => exact iteT (tG_mk (e.ext x1) s1 q1)
    | false => exact iteF (tG_mk (e.ext x1) s1 q1))⟩
theorem de_one {op} (h : DE X T W a Fa) : DE X T W (.BoolOp op [a] pos) Fa := ⟨pe_one h.run⟩
theorem de_and (ha : DE X T W a Fa) (hb : DE X T W (.BoolOp .And (b :: rest) pos) Fb) : DE X T W (.BoolOp .And (a :: b :: rest) pos) (eAnd Fa Fb) :=
  ⟨(pe_andT ha.run hb.run).weak fun σ H Q ⟨μ, ρ, m, e, s, q⟩ => tG_mk e s (q.bind fun d m1 μ1 H1 x x1 s1 r1 q1 => by
    split at q1
    · rename_i h
      exact ⟨true, truD_rep s1 r1 h, iteT (tG_mk (e.ext x1) s1 q1)⟩
    · rename_i h
      exact ⟨false, truD_rep s1 r1 h, iteF (post_here s1 r1 q1)⟩
    · exact q1.elim)⟩
theorem de_or (ha : DE X T W a Fa) (hb : DE X T W (.BoolOp .Or (b :: rest) pos) Fb) : DE X T W (.BoolOp .Or (a :: b :: rest) pos) (eOr Fa Fb) :=
  ⟨(pe_orT ha.run hb.run).weak fun σ H Q ⟨μ, ρ, m, e, s, q⟩ => tG_mk e s (q.bind fun d m1 μ1 H1 x x1 s1 r1 q1 => by
    split at q1
    · rename_i h
      exact ⟨true, truD_rep s1 r1 h, iteT (post_here s1 r1 q1)⟩
    · rename_i h
      exact ⟨false, truD_rep s1 r1 h, iteF (tG_mk (e.ext x1) s1 q1)⟩
    · exact q1.elim)⟩
theorem de_not (ha : DE X T W a Fa) : DE X T W (.UnaryOp .Not a pos) (eNot Fa) :=
  ⟨(pe_notT ha.run).weak fun σ H Q ⟨μ, ρ, m, e, s, q⟩ => tG_mk e s (q.bind fun d m1 μ1 H1 x x1 s1 r1 q1 => by
    split at q1
    · rename_i k h
      exact ⟨k, truD_rep s1 r1 h, post_here (a := D.bl (!k)) s1 rfl q1⟩
    · exact q1.elim)⟩
end

/-! ### statements -/
section
variable (K : PySem.W.Frag) (T : List (Addr × Str)) (W : WX)
/-- what is asked of a statement's result -/
def PostS (μ : List Addr) (H : Hp) (r : RS) (Z : Ends) : Prop :=
  match r with
  | .nx ρ' m' => ∀ μ' H' σ', Ext μ H μ' H' → Sto T K μ' H' m' → ERep K μ' H' ρ' σ' → Z.nx σ' H'
  | .rt d m' => ∀ μ' H' v, Ext μ H μ' H' → Sto T K μ' H' m' → Rep K μ' H' d v → Z.rt v H'
  | .bk ρ' m' => ∀ μ' H' σ', Ext μ H μ' H' → Sto T K μ' H' m' → ERep K μ' H' ρ' σ' → Z.bk σ' H'
  | .ct ρ' m' => ∀ μ' H' σ', Ext μ H μ' H' → Sto T K μ' H' m' → ERep K μ' H' ρ' σ' → Z.ct σ' H'
  | .ex c ns vs ρ' m' => ∀ μ' H' σ' od, Ext μ H μ' H' → Sto T K μ' H' m' → ERep K μ' H' ρ' σ' → XRep K μ' H' ns vs od → W (.ref c) od σ' H'
  | .no => False
def tS (S : SS) : TS := fun Z σ H => ∃ μ ρ m, ERep K μ H ρ σ ∧ Sto T K μ H m ∧ PostS K T W μ H (S ρ m) Z
end
section
variable (X : Cx) (T : List (Addr × Str)) (W : WX)
structure DS (s : Stmt) (S : SS) : Prop where
  run : PS X s (tS X.K T W S)
structure DSs (s : List Stmt) (S : SS) : Prop where
  run : PSs X s (tS X.K T W S)
end
/-- a part's result leads on to a statement's -/
def R.go {α : Type} (r : R α) (ρ : Env) (k : α → List C → RS) : RS :=
  match r with
  | .ok a m => k a m
  | .exc c ns vs m => .ex c ns vs ρ m
  | .no => .no
@[simp] theorem R.go_ok {α : Type} (a : α) (m : List C) (ρ : Env) (k : α → List C → RS) : (R.ok a m).go ρ k = k a m := rfl
@[simp] theorem R.go_exc {α : Type} (c : Addr) (ns : List Str) (vs : List D) (m : List C) (ρ : Env) (k : α → List C → RS) : (R.exc c ns vs m : R α).go ρ k = .ex c ns vs ρ m := rfl
@[simp] theorem R.go_no {α : Type} (ρ : Env) (k : α → List C → RS) : (R.no : R α).go ρ k = .no := rfl
def RS.seq (r : RS) (k : Env → List C → RS) : RS :=
  match r with
  | .nx ρ m => k ρ m
  | r => r
@[simp] theorem RS.seq_nx (ρ : Env) (m : List C) (k : Env → List C → RS) : (RS.nx ρ m).seq k = k ρ m := rfl
@[simp] theorem RS.seq_rt (d : D) (m : List C) (k : Env → List C → RS) : (RS.rt d m).seq k = .rt d m := rfl
@[simp] theorem RS.seq_bk (ρ : Env) (m : List C) (k : Env → List C → RS) : (RS.bk ρ m).seq k = .bk ρ m := rfl
@[simp] theorem RS.seq_ct (ρ : Env) (m : List C) (k : Env → List C → RS) : (RS.ct ρ m).seq k = .ct ρ m := rfl
@[simp] theorem RS.seq_ex (c : Addr) (ns : List Str) (vs : List D) (ρ : Env) (m : List C) (k : Env → List C → RS) : (RS.ex c ns vs ρ m).seq k = .ex c ns vs ρ m := rfl
@[simp] theorem RS.seq_no (k : Env → List C → RS) : (RS.no).seq k = .no := rfl
section
variable {K : PySem.W.Frag} {T : List (Addr × Str)} {W : WX} {μ μ' : List Addr} {H H' : Hp} {Z : Ends}
theorem PostS.ext {r : RS} (x : Ext μ H μ' H') (h : PostS K T W μ H r Z) : PostS K T W μ' H' r Z := by
  cases r with
  | no => exact h
  | rt d m => exact fun μ2 H2 v y s q => h μ2 H2 v (x.trans y) s q
  | nx ρ m => exact fun μ2 H2 v y s q => h μ2 H2 v (x.trans y) s q
  | bk ρ m => exact fun μ2 H2 v y s q => h μ2 H2 v (x.trans y) s q
  | ct ρ m => exact fun μ2 H2 v y s q => h μ2 H2 v (x.trans y) s q
  | ex c ns vs ρ m => exact fun μ2 H2 σ' od y s q z => h μ2 H2 σ' od (x.trans y) s q z
/-- an expression within a statement -/
theorem PostS.go {α β : Type} {rp : List Addr → Hp → α → β → Prop} {r : R α} {ρ : Env} {σ : L2.St} {k : α → List C → RS} {Q : β → Hp → Prop} (e : ERep K μ H ρ σ) (h : PostS K T W μ H (r.go ρ k) Z)
    (hq : ∀ a m' μ' H' v, Ext μ H μ' H' → Sto T K μ' H' m' → rp μ' H' a v → PostS K T W μ' H' (k a m') Z → Q v H') : Post rp T K W σ μ H r Q := by
  cases r with
  | ok a m => exact fun μ2 H2 v y s q => hq a m μ2 H2 v y s q (PostS.ext y h)
  | exc c ns vs m => exact fun μ2 H2 od y s q => h μ2 H2 σ od y s (e.ext y) q
  | no => exact h
theorem PostS.nx_here {ρ : Env} {m : List C} {σ : L2.St} (s : Sto T K μ H m) (e : ERep K μ H ρ σ) (h : PostS K T W μ H (.nx ρ m) Z) : Z.nx σ H := h μ H σ (.refl μ H) s e
theorem PostS.rt_here {d : D} {v : V} {m : List C} (s : Sto T K μ H m) (e : Rep K μ H d v) (h : PostS K T W μ H (.rt d m) Z) : Z.rt v H := h μ H v (.refl μ H) s e
end
def sSkip : SS := fun ρ m => .nx ρ m
def sSeq (S S' : SS) : SS := fun ρ m => (S ρ m).seq S'
def sSet (i : Nat) (F : ES) : SS := fun ρ m => (F ρ m).go ρ fun d m1 => .nx (ρ.set i (some d)) m1
def sExpr (F : ES) : SS := fun ρ m => (F ρ m).go ρ fun _ m1 => .nx ρ m1
def sRet (F : ES) : SS := fun ρ m => (F ρ m).go ρ fun d m1 => .rt d m1
def sRetN : SS := fun _ m => .rt .non m
def sIf (A : BS) (S S' : SS) : SS := fun ρ m => (A ρ m).go ρ fun b m1 => if b then S ρ m1 else S' ρ m1
def sBreak : SS := fun ρ m => .bk ρ m
def sCont : SS := fun ρ m => .ct ρ m
section
variable {X : Cx} {T : List (Addr × Str)} {W : WX} {a b c e : Expr} {st : Stmt} {sts : List Stmt} {ea eb : List Stmt} {F : ES} {A : BS} {S S' : SS} {pos : Pos}
theorem dss_nil : DSs X T W [] sSkip := ⟨pss_nil.weak fun Z σ H ⟨μ, ρ, m, e, s, q⟩ => q.nx_here s e⟩
theorem dss_cons (h1 : DS X T W st S) (h2 : DSs X T W sts S') : DSs X T W (st :: sts) (sSeq S S') := ⟨(pss_cons h1.run h2.run).weak fun Z σ H ⟨μ, ρ, m, e, s, q⟩ => ⟨μ, ρ, m, e, s, by
  unfold sSeq at q
  cases r : S ρ m with
  | nx ρ1 m1 => rw [r] at q; exact fun μ1 H1 σ1 x1 s1 e1 => ⟨μ1, ρ1, m1, e1, s1, PostS.ext x1 q⟩
  | rt d m1 => rw [r] at q; exact q
  | bk ρ1 m1 => rw [r] at q; exact q
  | ct ρ1 m1 => rw [r] at q; exact q
  | ex c ns vs ρ1 m1 => rw [r] at q; exact q
  | no => rw [r] at q; exact q⟩⟩
theorem dss_one (h1 : DS X T W st S) : DSs X T W [st] S := ⟨pss_one h1.run⟩
theorem ds_pass : DS X T W (.Pass pos) sSkip := ⟨ps_pass.weak fun Z σ H ⟨μ, ρ, m, e, s, q⟩ => q.nx_here s e⟩
theorem ds_break : DS X T W (.Break pos) sBreak := ⟨ps_break.weak fun Z σ H ⟨μ, ρ, m, e, s, q⟩ => q μ H σ (.refl μ H) s e⟩
theorem ds_continue : DS X T W (.Continue pos) sCont := ⟨ps_continue.weak fun Z σ H ⟨μ, ρ, m, e, s, q⟩ => q μ H σ (.refl μ H) s e⟩
theorem ds_expr (he : DE X T W e F) (hs : swapsWith e none pos.line X.env = pure false := by rfl) : DS X T W (.Expr e pos) (sExpr F) :=
  ⟨(ps_expr he.run hs).weak fun Z σ H ⟨μ, ρ, m, e, s, q⟩ => tG_mk e s (q.go e fun d m1 μ1 H1 x x1 s1 r1 q1 => q1.nx_here s1 (e.ext x1))⟩
theorem ds_ret (he : DE X T W e F) : DS X T W (.Return (some e) pos) (sRet F) :=
  ⟨(ps_ret he.run).weak fun Z σ H ⟨μ, ρ, m, e, s, q⟩ => tG_mk e s (q.go e fun d m1 μ1 H1 x x1 s1 r1 q1 => q1.rt_here s1 r1)⟩
theorem ds_retN : DS X T W (.Return none pos) sRetN := ⟨ps_retN.weak fun Z σ H ⟨μ, ρ, m, e, s, q⟩ => q.rt_here (d := .non) s rfl⟩
theorem ds_if (hc : DT X T W c A) (ha : DSs X T W ea S) (hb : DSs X T W eb S') : DS X T W (.If c ea eb pos) (sIf A S S') :=
  ⟨(ps_if hc.run ha.run hb.run).weak fun Z σ H ⟨μ, ρ, m, e, s, q⟩ => tG_mk e s (q.go e fun k m1 μ1 H1 x x1 s1 r1 q1 => by
    cases r1
    cases k with
    | true => exact iteT ⟨μ1, ρ, m1, e.ext x1, s1, q1⟩
    | false => exact iteF ⟨μ1, ρ, m1, e.ext x1, s1, q1⟩)⟩
theorem ds_set {i : Nat} {x : Str} {pos' : Pos} (hN : X.N.Nodup) (hi : X.N[i]? = some x) (hx : Loc X.env.scope x) (he : DE X T W e F) (hs : swapsWith e (some (.Name x pos')) pos.line X.env = pure false := by rfl)
    (hf : X.fn x = true ∨ X.env.scope.names.lookup x = some .local := by first | exact .inl rfl | exact .inr rfl | assumption) : DS X T W (.Assign [.Name x pos'] e pos) (sSet i F) :=
  ⟨(ps_set hN hi hx he.run hs hf).weak fun Z σ H ⟨μ, ρ, m, e, s, q⟩ => tG_mk e s (q.go e fun d m1 μ1 H1 v x1 s1 r1 q1 => q1.nx_here s1 ((e.ext x1).set r1))⟩
end

/-! ### defs -/
abbrev FS := List D → List C → R D
/-- the def's promise: what G says -/
def spD (K : PySem.W.Frag) (T : List (Addr × Str)) (n : Nat) (G : FS) : Sp := fun vs H Q E => vs.length = n ∧ ∃ μ ds m, RepL K μ H ds vs ∧ Sto T K μ H m ∧
  match G ds m with
  | .ok d m' => ∀ μ' H' v, Ext μ H μ' H' → Sto T K μ' H' m' → Rep K μ' H' d v → Q v H'
  | .exc c ns xs m' => ∀ μ' H' od, Ext μ H μ' H' → Sto T K μ' H' m' → XRep K μ' H' ns xs od → E (.ref c) od H'
  | .no => False
theorem spD_post {K : PySem.W.Frag} {T : List (Addr × Str)} {W : WX} {n : Nat} {G : FS} {μ : List Addr} {ds : List D} {m : List C} {vs : List V} {H : Hp} {Q : VK} {σ : L2.St} (hl : ds.length = n) (r : RepL K μ H ds vs) (s : Sto T K μ H m) (h : Post (Rep K) T K W σ μ H (G ds m) Q) : spD K T n G vs H Q (WE W σ) :=
  ⟨by rw [← r.length, hl], μ, ds, m, r, s, by
    cases e : G ds m with
    | ok d m' => rw [e] at h; exact h
    | exc c ns xs m' => rw [e] at h; exact h
    | no => rw [e] at h; exact h⟩
/-- the names at the entry -/
def startD (n : Nat) (ds : List D) : Env := ds.map some ++ List.replicate (n - ds.length) none
/-- a body as a def's result -/
def fnD (n : Nat) (S : SS) : FS := fun ds m => match S (startD n ds) m with
  | .nx _ m' => .ok .non m'
  | .rt d m' => .ok d m'
  | .ex c ns vs _ m' => .exc c ns vs m'
  | _ => .no
theorem startD_rep {K : PySem.W.Frag} {μ : List Addr} {H : Hp} {N : List Str} {ds : List D} {vs : List V} (r : RepL K μ H ds vs) : ERep K μ H (startD N.length ds) (L2.start N vs) := by
  have hl := r.length
  refine ⟨by simp [startD, L2.start, hl], fun i d e => ?_⟩
  unfold startD at e
  have hi : i < ds.length := by
    rcases Nat.lt_or_ge i ds.length with h | h
    · exact h
    · rw [List.getElem?_append_right (by simpa using h), List.getElem?_replicate] at e
      split at e <;> cases e
  rw [List.getElem?_append_left (by simpa using hi), List.getElem?_map] at e
  cases q : ds[i]? with
  | none => rw [q] at e; cases e
  | some d' =>
    rw [q] at e
    cases e
    obtain ⟨v, e1, r1⟩ := r.get q
    refine ⟨v, ?_, r1⟩
    unfold L2.start
    rw [List.getElem?_append_left (by rw [List.length_map, ← hl]; exact hi), List.getElem?_map, e1]
    rfl
section
variable {P : Program} {w : World} {K : PySem.W.Frag} {mg : Str → Option Value} {base : Heap} {T : List (Addr × Str)}
/-- THE RULE for a def -/
theorem fn_D {x qual : Str} {st : Stmt} {f : Addr} {fd : FuncData} {N ps : List Str} {k : Nat} {S : SS} (F : Fun K x qual st f fd) (Sc : FnScope N ps (defScope st))
    (hb : ∀ (cdv : Value) (A : Around) (outer : List PySem.Env) (s : Shared) (H : Hp) (E : XK), Room k (A.deeper (envOfC qual (defScope st) s.heap.objs.size f cdv)) →
      Takes (cxOf (L2.CX P w) P w K mg base N qual (defScope st) f cdv A outer s H E) (fun cls d _ H' => E cls d H') → DSs (cxOf (L2.CX P w) P w K mg base N qual (defScope st) f cdv A outer s H E) T (fun cls d _ H' => E cls d H') (defBody st) S) :
    FnOk P w K mg base (L2.CX P w) (k + 1) f fd ps (spD K T ps.length (fnD N.length S)) := by
  refine F.okX Sc (fun vs H Q E h => h.1) (fun cdv A outer s H vs Q E hr h => ?_)
  obtain ⟨hl, μ, ds, m, r, sto, h⟩ := h
  refine ⟨_, (hb cdv A outer s H E hr (takes_of rfl rfl rfl rfl)).run, μ, startD N.length ds, m, startD_rep r, sto, ?_⟩
  unfold fnD at h
  cases e : S (startD N.length ds) m with
  | nx ρ1 m1 => rw [e] at h; exact fun μ1 H1 σ1 x1 s1 e1 => h μ1 H1 .non x1 s1 rfl
  | rt d m1 => rw [e] at h; exact h
  | bk ρ1 m1 => rw [e] at h; exact h.elim
  | ct ρ1 m1 => rw [e] at h; exact h.elim
  | ex c ns vs ρ1 m1 => rw [e] at h; exact fun μ1 H1 σ1 od x1 s1 e1 xr => h μ1 H1 od x1 s1 xr
  | no => rw [e] at h; exact h.elim
/-- a weaker account: G' says what G comes to, where it says anything -/
theorem FnOk.toD {f : Addr} {fd : FuncData} {ps : List Str} {k n : Nat} {G G' : FS} {CX : CXT} (F : FnOk P w K mg base CX k f fd ps (spD K T n G)) (h : ∀ ds m, ds.length = n → G' ds m = .no ∨ G ds m = G' ds m) : FnOk P w K mg base CX k f fd ps (spD K T n G') :=
  F.imp fun vs H Q E ⟨hl, μ, ds, m, r, s, q⟩ => ⟨hl, μ, ds, m, r, s, by
    rcases h ds m (by rw [r.length]; exact hl) with e | e
    · rw [e] at q; exact q.elim
    · rw [e]; exact q⟩
end
/-- a call of a def of the text -/
def eCall (n : Nat) (G : FS) (A : LS) : ES := fun ρ m => (A ρ m).bind fun ds m1 => if ds.length = n then G ds m1 else .no
section
variable {X : Cx} {T : List (Addr × Str)} {W : WX} {e : Expr} {es : List Expr} {A : LS} {pos p : Pos}
theorem de_call {k n : Nat} {f : Addr} {fd : FuncData} {ps : List Str} {x : Str} {G : FS} (tk : Takes X W) (F : FnOk X.prog X.w X.K X.mg X.base (L2.CX X.prog X.w) k f fd ps (spD X.K T n G)) (hr : Room k X.A) (hm : X.mg x = some (.ref f)) (hk : PySem.W.keepIn X.K (.ref f) = true) (hb : Binds X.K fd ps [])
    (hA : DA X T W (e :: es) A) (hg : Gl X x := by rfl) (hdb : (x == ("__debug__" : Str)) = false := by decide) (he : starEach (e :: es) X.env = (false, eval e X.env) :: starEach es X.env := by rfl) (hpl : (backTo pos (starEach es X.env)).any (·.1) = false := by rfl) :
    DE X T W (.Call (.Name x p) (e :: es) [] pos) (eCall n G A) :=
  ⟨(pe_callSD (dvs := []) F hr hg hm hk hb .nil (fun σ => passAt tk σ) hA.run hdb he hpl).weak fun σ H Q ⟨μ, ρ, m, e, s, q⟩ => tG_mk e s (q.bind fun ds m1 μ1 H1 vs x1 s1 r1 q1 => by
    rw [List.append_nil]
    split at q1
    · rename_i hn
      exact spD_post hn r1 s1 q1
    · exact q1.elim)⟩
end
end DL


/-! DLd: targets, what is walked, for, while, list comprehensions of the tree layer. -/
namespace DL
open PySem PySem.Spec L2
open PyProof.Rows hiding St

/-! ### targets -/
abbrev GS := D → Env → List C → Option Env
abbrev GSs := List D → Env → List C → Option Env
/-- all but the slots ws are as they were -/
def Else (ws : List Nat) (σ σ' : L2.St) : Prop := σ'.length = σ.length ∧ ∀ j, j ∉ ws → σ'[j]? = σ[j]?
def tT (T : List (Addr × Str)) (K : PySem.W.Frag) (ws : List Nat) (g : GS) : TG := fun v σ H Q => ∃ μ ρ m d, ERep K μ H ρ σ ∧ Sto T K μ H m ∧ Rep K μ H d v ∧ ∃ ρ', g d ρ m = some ρ' ∧ ∀ σ', ERep K μ H ρ' σ' → Else ws σ σ' → Q σ' H
def tTs (T : List (Addr × Str)) (K : PySem.W.Frag) (ws : List Nat) (g : GSs) : TGs := fun vs σ H Q => ∃ μ ρ m ds, ERep K μ H ρ σ ∧ Sto T K μ H m ∧ RepL K μ H ds vs ∧ ∃ ρ', g ds ρ m = some ρ' ∧ ∀ σ', ERep K μ H ρ' σ' → Else ws σ σ' → Q σ' H
structure DG (X : Cx) (T : List (Addr × Str)) (t : Expr) (ws : List Nat) (g : GS) : Prop where
  run : PG X t (tT T X.K ws g)
structure DGs (X : Cx) (T : List (Addr × Str)) (t : List Expr) (ws : List Nat) (g : GSs) : Prop where
  run : PGs X t (tTs T X.K ws g)
def gN (i : Nat) : GS := fun d ρ _ => some (ρ.set i (some d))
def gsNil : GSs := fun ds ρ _ => match ds with
  | [] => some ρ
  | _ => none
def gsCons (g : GS) (gs : GSs) : GSs := fun ds ρ m => match ds with
  | [] => none
  | d :: ds => (g d ρ m).bind fun ρ' => gs ds ρ' m
def gT (n : Nat) (gs : GSs) : GS := fun d ρ m => match d with
  | .tup l => if l.length = n then gs l ρ m else none
  | .tmp l => if l.length = n then gs l ρ m else none
  | _ => none
theorem _root_.L2.PG.weak {X : Cx} {e : Expr} {t t' : TG} (h : PG X e t) (k : ∀ v σ H Q, t' v σ H Q → t v σ H Q) : PG X e t' := ⟨fun pins s σ H v u Q I r q => h.run pins s σ H v u Q I r (k v σ H Q q)⟩
theorem _root_.L2.PGs.weak {X : Cx} {e : List Expr} {t t' : TGs} (h : PGs X e t) (k : ∀ v σ H Q, t' v σ H Q → t v σ H Q) : PGs X e t' := ⟨fun pins s σ H v u Q I r q => h.run pins s σ H v u Q I r (k v σ H Q q)⟩
section
variable {X : Cx} {T : List (Addr × Str)} {pos : Pos}
theorem dg_name {i : Nat} {x : Str} (hN : X.N.Nodup) (hi : X.N[i]? = some x) (hx : Loc X.env.scope x) (hf : X.fn x = true ∨ X.env.scope.names.lookup x = some .local := by first | exact .inl rfl | exact .inr rfl | assumption) : DG X T (.Name x pos) [i] (gN i) :=
  ⟨(pg_name hN hi hx hf).weak fun v σ H Q ⟨μ, ρ, m, d, e, s, r, ρ', eg, h⟩ => by
    cases eg
    refine h _ (e.set r) ⟨by simp, fun j hj => ?_⟩
    rw [List.getElem?_set_ne (fun z => hj (by rw [z]; exact List.mem_singleton.mpr rfl))]⟩
theorem dgs_nil : DGs X T [] [] gsNil := ⟨pgs_nil.weak fun v σ H Q ⟨μ, ρ, m, d, e, s, r, ρ', eg, h⟩ => by
  cases d with
  | nil =>
    cases eg
    cases r
    exact ⟨rfl, h _ e ⟨rfl, fun _ _ => rfl⟩⟩
  | cons d ds => cases eg⟩
theorem dgs_cons {t : Expr} {ts : List Expr} {ws ws' : List Nat} {g : GS} {gs : GSs} (h1 : DG X T t ws g) (h2 : DGs X T ts ws' gs) (hs : (assignEach (t :: ts) X.env).map (·.2) = assign t X.env :: (assignEach ts X.env).map (·.2) := by rfl) : DGs X T (t :: ts) (ws ++ ws') (gsCons g gs) :=
  ⟨(pgs_cons h1.run h2.run hs).weak fun vs σ H Q ⟨μ, ρ, m, ds, e, s, r, ρ', eg, h⟩ => by
    cases ds with
    | nil => cases eg
    | cons d ds =>
      obtain ⟨x, xs, rfl, r1, r2⟩ := r
      change ((g d ρ m).bind fun ρ' => gs ds ρ' m) = some ρ' at eg
      cases h1 : g d ρ m with
      | none => rw [h1] at eg; cases eg
      | some ρ1 =>
        rw [h1] at eg
        refine ⟨x, xs, rfl, μ, ρ, m, d, e, s, r1, ρ1, h1, fun σ1 e1 l1 => ⟨μ, ρ1, m, ds, e1, s, r2, ρ', eg, fun σ2 e2 l2 => h σ2 e2 ⟨l2.1.trans l1.1, fun j hj => ?_⟩⟩⟩
        rw [List.mem_append, not_or] at hj
        exact (l2.2 j hj.2).trans (l1.2 j hj.1)⟩
theorem dg_tup {es : List Expr} {k n : Nat} {ws : List Nat} {gs : GSs} (hc : X.calm = true) (h : DGs X T es ws gs) (hn : (assignEach es X.env).length = n := by rfl) (hst : (assignEach es X.env).findIdx? (·.1) = none := by rfl) : DG X T (.Tuple es k pos) ws (gT n gs) :=
  ⟨(pg_tup hc h.run hn hst).weak fun v σ H Q ⟨μ, ρ, m, d, e, s, r, ρ', eg, h⟩ => by
    cases d with
    | tup l =>
      change (if l.length = n then gs l ρ m else none) = some ρ' at eg
      split at eg
      · rename_i hl
        obtain ⟨a, xs, rfl, sq, r2⟩ := r
        exact ⟨a, xs, rfl, sq.sqt, by rw [← r2.length]; exact hl, μ, ρ, m, l, e, s, r2, ρ', eg, h⟩
      · cases eg
    | tmp l =>
      change (if l.length = n then gs l ρ m else none) = some ρ' at eg
      split at eg
      · rename_i hl
        obtain ⟨a, xs, rfl, sq, r2⟩ := r
        exact ⟨a, xs, rfl, sq, by rw [← r2.length]; exact hl, μ, ρ, m, l, e, s, r2, ρ', eg, h⟩
      · cases eg
    | _ => cases eg⟩
end

/-! ### what is walked -/
/-- J yields the items, whatever else changes meanwhile -/
structure IterOk (T : List (Addr × Str)) (K : PySem.W.Frag) (J : It) (l : List D) (μ0 : List Addr) (H0 : Hp) : Prop where
  go : ∀ i H, Kept H0 H → i < l.length → J.go i H
  stop : ∀ H, Kept H0 H → J.stop l.length H
  yld : ∀ i H x H' μ m d, Kept H0 H → μ0 <+: μ → Sto T K μ H m → l[i]? = some d → J.yld i H x H' → Ext μ H μ H' ∧ Sto T K μ H' m ∧ Rep K μ H' d x
def iRep (T : List (Addr × Str)) (K : PySem.W.Frag) : List Addr → Hp → List D → It → Prop := fun μ H l J => IterOk T K J l μ H
structure DI (X : Cx) (T : List (Addr × Str)) (W : WX) (tg e : Expr) (L : LS) : Prop where
  run : PI X tg e (tG (iRep T X.K) T X.K W L)
theorem _root_.L2.PI.weak {X : Cx} {tg e : Expr} {t t' : TI} (h : PI X tg e t) (k : ∀ σ H Q, t' σ H Q → t σ H Q) : PI X tg e t' := ⟨fun pins s σ H R I q => h.run pins s σ H R I (k σ H R q)⟩
section
variable {X : Cx} {T : List (Addr × Str)} {W : WX} {tg e : Expr} {F : ES} {pos : Pos}
theorem iter_list {K : PySem.W.Frag} {μ : List Addr} {H : Hp} {a : Addr} {xs : List V} {l : List D} (h : FzL K H a xs) (r : RepL K μ H l xs) : IterOk T K (Itl K a) l μ H := by
  have st : ∀ H', Kept H H' → SqL K H' a xs := fun H' k => let ⟨o, q⟩ := h; .inl (.inr ⟨o, k.frz _ _ _ q⟩)
  refine ⟨fun i H' k hi => ?_, fun H' k => ⟨xs, st H' k, by rw [r.length]; exact Nat.le_refl _⟩, fun i H' x H2 μ' m d k hp s hd hy => ?_⟩
  · obtain ⟨v, hv, _⟩ := r.get (List.getElem?_eq_getElem hi)
    exact ⟨xs, v, st H' k, hv⟩
  · obtain ⟨rfl, hx⟩ := hy
    obtain ⟨v, hv, rv⟩ := r.get hd
    have e := hx xs (st _ k)
    rw [hv] at e
    cases e
    exact ⟨.refl _ _, s, rv.keep k hp⟩
theorem iter_tup {K : PySem.W.Frag} {μ : List Addr} {H : Hp} {a : Addr} {xs : List V} {l : List D} (h : SqT K H a xs) (r : RepL K μ H l xs) : IterOk T K (Itt K a) l μ H := by
  refine ⟨fun i H' k hi => ?_, fun H' k => ⟨xs, k.sqT h, by rw [r.length]; exact Nat.le_refl _⟩, fun i H' x H2 μ' m d k hp s hd hy => ?_⟩
  · obtain ⟨v, hv, _⟩ := r.get (List.getElem?_eq_getElem hi)
    exact ⟨xs, v, k.sqT h, hv⟩
  · obtain ⟨rfl, hx⟩ := hy
    obtain ⟨v, hv, rv⟩ := r.get hd
    have e := hx xs (k.sqT h)
    rw [hv] at e
    cases e
    exact ⟨.refl _ _, s, rv.keep k hp⟩
/-- the signs of a text -/
def charsD (x : Str) : List D := x.cps.toList.map fun c => D.str ⟨#[c]⟩
def iSeq (F : ES) : LS := fun ρ m => (F ρ m).bind fun d m1 => match d with
  | .lst l => .ok l m1
  | .tup l => .ok l m1
  | .str x => .ok (charsD x) m1
  | _ => .no
theorem _root_.L2.PI.or {X : Cx} {tg e : Expr} {t t' : TI} (h : PI X tg e t) (h' : PI X tg e t') : PI X tg e (fun σ H R => t σ H R ∨ t' σ H R) := ⟨fun pins s σ H R I q => by
  rcases q with q | q
  · exact h.run pins s σ H R I q
  · exact h'.run pins s σ H R I q⟩
theorem iter_str {K : PySem.W.Frag} {μ : List Addr} {H : Hp} {x : Str} : IterOk T K (Its x) (charsD x) μ H := by
  have hl : (charsD x).length = x.cps.size := by simp [charsD]
  refine ⟨fun i H' k hi => by rw [hl] at hi; exact hi, fun H' k => by rw [hl]; exact Nat.le_refl _, fun i H' y H2 μ' m d k hp s hd hy => ?_⟩
  obtain ⟨rfl, c, hc, rfl⟩ := hy
  refine ⟨.refl _ _, s, ?_⟩
  unfold charsD at hd
  rw [List.getElem?_map, Array.getElem?_toList, hc] at hd
  cases hd
  rfl
theorem pi_seq {l : Expr} {tl : TE} (hl : PE X l tl) : PI X tg l (fun σ H R => tl σ H fun x H1 => ∃ a, x = .ref a ∧ (((∃ xs, SqL X.K H1 a xs) ∧ R (Itl X.K a) H1) ∨ ((∃ xs, SqT X.K H1 a xs) ∧ R (Itt X.K a) H1))) := by
  refine ⟨fun pins s σ H R I h => ?_⟩
  refine thn (hl.run pins s σ H _ I h) fun v s1 ⟨x, H1, I1, r1, q1⟩ => ?_
  obtain ⟨a, e, q1⟩ := q1
  subst e
  cases r1
  rcases q1 with ⟨⟨xs, hq⟩, q⟩ | ⟨⟨xs, hq⟩, q⟩
  · obtain ⟨its, rv, p, hz⟩ := I1.list hq
    refine wpAny_pyIter_list p.isList ?_
    refine ⟨s1.heap.objs.size, [s1.heap.objs.size], _, _, H1, rfl, I1.kept (t' := s1.toks) fun b o e => Heap.get?_push_of_some _ e, turn_list a _, ⟨_, Heap.get?_push_size _ rfl, rfl, rfl⟩, fun b hb => ?_, q⟩
    have e : b = s1.heap.objs.size := by simpa using hb
    subst e
    exact I1.fpOk (Nat.le_refl _) (I1.hok.fresh (Nat.le_refl _))
  · obtain ⟨its, rv, p, hz⟩ := I1.tuple hq
    refine wpAny_pyIter_tuple (show s1.heap.IsTuple a its.toArray from p) ?_
    refine ⟨s1.heap.objs.size, [s1.heap.objs.size], _, _, H1, rfl, I1.kept (t' := s1.toks) fun b o e => Heap.get?_push_of_some _ e, turn_tuple a _, ⟨_, Heap.get?_push_size _ rfl, rfl, rfl⟩, fun b hb => ?_, q⟩
    have e : b = s1.heap.objs.size := by simpa using hb
    subst e
    exact I1.fpOk (Nat.le_refl _) (I1.hok.fresh (Nat.le_refl _))
/-- over a list that is not written, a tuple or a text -/
theorem di_seq (h : DE X T W e F) : DI X T W tg e (iSeq F) := ⟨((pi_seq h.run).or (pi_str h.run)).weak fun σ H R ⟨μ, ρ, m, er, s, q⟩ => by
  unfold iSeq at q
  cases hF : F ρ m with
  | no => rw [hF] at q; exact q.elim
  | exc c ns vs m1 => rw [hF] at q; exact .inl ⟨μ, ρ, m, er, s, by rw [hF]; exact q⟩
  | ok d m1 =>
    rw [hF] at q
    cases d with
    | lst l => exact .inl ⟨μ, ρ, m, er, s, by
        rw [hF]
        intro μ1 H1 v x1 s1 r1
        obtain ⟨a, xs, rfl, f, r⟩ := r1
        exact ⟨a, rfl, .inl ⟨⟨xs, f.sql⟩, q μ1 H1 _ x1 s1 (iter_list f r)⟩⟩⟩
    | tup l => exact .inl ⟨μ, ρ, m, er, s, by
        rw [hF]
        intro μ1 H1 v x1 s1 r1
        obtain ⟨a, xs, rfl, f, r⟩ := r1
        exact ⟨a, rfl, .inr ⟨⟨xs, f.sqt⟩, q μ1 H1 _ x1 s1 (iter_tup f.sqt r)⟩⟩⟩
    | str y => exact .inr ⟨μ, ρ, m, er, s, by
        rw [hF]
        intro μ1 H1 v x1 s1 r1
        cases r1
        exact ⟨y, rfl, q μ1 H1 _ x1 s1 iter_str⟩⟩
    | _ => exact q.elim⟩
def rangeD (lo : Int) (n : Nat) : List D := (List.range n).map fun (i : Nat) => D.int (lo + (i : Int))
theorem iter_range {K : PySem.W.Frag} {μ : List Addr} {H : Hp} (lo : Int) (n : Nat) : IterOk T K (Itr lo n) (rangeD lo n) μ H := by
  have hl : (rangeD lo n).length = n := by simp [rangeD]
  refine ⟨fun i H' k hi => by rw [hl] at hi; exact hi, fun H' k => by rw [hl]; exact Nat.le_refl _, fun i H' x H2 μ' m d k hp s hd hy => ?_⟩
  obtain ⟨rfl, rfl⟩ := hy
  refine ⟨.refl _ _, s, ?_⟩
  unfold rangeD at hd
  rw [List.getElem?_map] at hd
  cases q : (List.range n)[i]? with
  | none => rw [q] at hd; cases hd
  | some j =>
    rw [q] at hd
    cases hd
    have : j = i := by
      have := (List.getElem?_eq_some_iff.mp q).2
      simpa using this.symm
    subst this
    rfl
def small62 (i : Int) : Bool := decide (-(2 ^ 62) ≤ i) && decide (i < 2 ^ 62)
def iRng1 (G : LS) : LS := fun ρ m => (G ρ m).bind fun l m1 => match l with
  | [.int j] => if small62 j then .ok (rangeD 0 j.toNat) m1 else .no
  | _ => .no
def iRng2 (G : LS) : LS := fun ρ m => (G ρ m).bind fun l m1 => match l with
  | [.int i, .int j] => if small62 i && small62 j then .ok (rangeD i (j - i).toNat) m1 else .no
  | _ => .no
theorem small62_of {i : Int} (h : small62 i = true) : -(2 ^ 62) ≤ i ∧ i < 2 ^ 62 := by
  unfold small62 at h
  rw [Bool.and_eq_true, decide_eq_true_eq, decide_eq_true_eq] at h
  exact h
theorem repL1 {K : PySem.W.Frag} {μ : List Addr} {H : Hp} {d : D} {vs : List V} (h : RepL K μ H [d] vs) : ∃ v, vs = [v] ∧ Rep K μ H d v := by
  obtain ⟨x, xs, rfl, r, t⟩ := h
  cases t
  exact ⟨x, rfl, r⟩
theorem repL2 {K : PySem.W.Frag} {μ : List Addr} {H : Hp} {d e : D} {vs : List V} (h : RepL K μ H [d, e] vs) : ∃ v u, vs = [v, u] ∧ Rep K μ H d v ∧ Rep K μ H e u := by
  obtain ⟨x, xs, rfl, r, t⟩ := h
  obtain ⟨y, rfl, r2⟩ := repL1 t
  exact ⟨x, y, rfl, r, r2⟩
theorem di_range1 {a : Expr} {G : LS} {p : Pos} (hm : X.mg "range" = none) (ha : DA X T W [a] G) (hg : Gl X "range" := by rfl) (hs : starEach [a] X.env = [(false, eval a X.env)] := by rfl) : DI X T W tg (.Call (.Name "range" p) [a] [] pos) (iRng1 G) :=
  ⟨(pi_range1 hg hm ha.run hs).weak fun σ H R ⟨μ, ρ, m, er, s, q⟩ => tG_mk er s (q.bind fun l m1 μ1 H1 vs x1 s1 r1 q1 => by
    split at q1
    · obtain ⟨v, rfl, r⟩ := repL1 r1
      cases r
      split at q1
      · rename_i hj
        exact ⟨_, rfl, (small62_of hj).1, (small62_of hj).2, post_here (rp := iRep T X.K) s1 (iter_range _ _) q1⟩
      · exact q1.elim
    · exact q1.elim)⟩
theorem di_range2 {a b : Expr} {G : LS} {p : Pos} (hm : X.mg "range" = none) (ha : DA X T W [a, b] G) (hg : Gl X "range" := by rfl) (hs : starEach [a, b] X.env = [(false, eval a X.env), (false, eval b X.env)] := by rfl) (hpl : starEach [b] X.env = [(false, eval b X.env)] := by rfl) : DI X T W tg (.Call (.Name "range" p) [a, b] [] pos) (iRng2 G) :=
  ⟨(pi_range2 hg hm ha.run hs hpl).weak fun σ H R ⟨μ, ρ, m, er, s, q⟩ => tG_mk er s (q.bind fun l m1 μ1 H1 vs x1 s1 r1 q1 => by
    split at q1
    · obtain ⟨v, u, rfl, r, r'⟩ := repL2 r1
      cases r
      cases r'
      split at q1
      · rename_i hj
        rw [Bool.and_eq_true] at hj
        exact ⟨_, _, rfl, ⟨(small62_of hj.1).1, (small62_of hj.1).2, (small62_of hj.2).1, (small62_of hj.2).2⟩, post_here (rp := iRep T X.K) s1 (iter_range _ _) q1⟩
      · exact q1.elim
    · exact q1.elim)⟩
end

/-! ### for -/
/-- behind a turn of a loop -/
def RS.turn (r : RS) (k : Env → List C → RS) : RS :=
  match r with
  | .nx ρ m => k ρ m
  | .ct ρ m => k ρ m
  | .bk ρ m => .nx ρ m
  | r => r
@[simp] theorem RS.turn_nx (ρ : Env) (m : List C) (k : Env → List C → RS) : (RS.nx ρ m).turn k = k ρ m := rfl
@[simp] theorem RS.turn_ct (ρ : Env) (m : List C) (k : Env → List C → RS) : (RS.ct ρ m).turn k = k ρ m := rfl
@[simp] theorem RS.turn_bk (ρ : Env) (m : List C) (k : Env → List C → RS) : (RS.bk ρ m).turn k = .nx ρ m := rfl
@[simp] theorem RS.turn_rt (d : D) (m : List C) (k : Env → List C → RS) : (RS.rt d m).turn k = .rt d m := rfl
@[simp] theorem RS.turn_ex (c : Addr) (ns : List Str) (vs : List D) (ρ : Env) (m : List C) (k : Env → List C → RS) : (RS.ex c ns vs ρ m).turn k = .ex c ns vs ρ m := rfl
@[simp] theorem RS.turn_no (k : Env → List C → RS) : (RS.no).turn k = .no := rfl
def RS.opt (o : Option Env) (k : Env → RS) : RS :=
  match o with
  | some ρ => k ρ
  | none => .no
@[simp] theorem RS.opt_some (ρ : Env) (k : Env → RS) : RS.opt (some ρ) k = k ρ := rfl
@[simp] theorem RS.opt_none (k : Env → RS) : RS.opt none k = .no := rfl
def loopD (g : GS) (B : SS) : List D → Env → List C → RS
  | [], ρ, m => .nx ρ m
  | d :: ds, ρ, m => RS.opt (g d ρ m) fun ρ1 => (B ρ1 m).turn fun ρ2 m2 => loopD g B ds ρ2 m2
def sFor (L : LS) (g : GS) (B : SS) : SS := fun ρ m => (L ρ m).go ρ fun l m1 => loopD g B l ρ m1
section
variable {X : Cx} {T : List (Addr × Str)} {W : WX} {tg iter : Expr} {L : LS} {ws : List Nat} {g : GS} {B : SS} {body : List Stmt} {pos : Pos}
theorem ds_for (hp : PassesOwn (model X.prog X.w) X.A X.env X.xe) (hc : X.calm = true) (hi : DI X T W tg iter L) (hg : DG X T tg ws g) (hb : DSs X T W body B) (hs : ∀ x, foldedSetIterable iter X.env x = pure x := by intro _; rfl) : DS X T W (.For tg iter body [] pos) (sFor L g B) :=
  ⟨(ps_for hp hc hi.run hg.run hb.run hs).weak fun Z σ H ⟨μ, ρ, m, er, s, q⟩ => tG_mk er s (q.go er fun l m1 μ1 H1 J x1 s1 it q1 => by
    refine ⟨fun i n σ2 H2 => n = l.length - i ∧ i ≤ l.length ∧ ∃ μ2 ρ2 m2, Ext μ1 H1 μ2 H2 ∧ ERep X.K μ2 H2 ρ2 σ2 ∧ Sto T X.K μ2 H2 m2 ∧ PostS X.K T W μ2 H2 (loopD g B (l.drop i) ρ2 m2) Z,
      ⟨l.length, by simp, Nat.zero_le _, μ1, ρ, m1, .refl _ _, er.ext x1, s1, by simpa using q1⟩, ?_⟩
    rintro i n σ2 H2 ⟨rfl, hi, μ2, ρ2, m2, x2, e2, s2, q2⟩
    by_cases hlt : i < l.length
    · refine .inr ⟨it.go i H2 x2.kept hlt, fun σ2 H2 => l.length - (i + 1) = l.length - (i + 1) ∧ i + 1 ≤ l.length ∧ ∃ μ2 ρ2 m2, Ext μ1 H1 μ2 H2 ∧ ERep X.K μ2 H2 ρ2 σ2 ∧ Sto T X.K μ2 H2 m2 ∧ PostS X.K T W μ2 H2 (loopD g B (l.drop (i + 1)) ρ2 m2) Z, fun σ' H' w => ⟨l.length - (i + 1), ?_, w⟩, fun x H' hy => ?_⟩
      · omega
      · have hd : l[i]? = some l[i] := List.getElem?_eq_getElem hlt
        obtain ⟨x3, s3, r3⟩ := it.yld i H2 x H' μ2 m2 _ x2.kept x2.pre s2 hd hy
        rw [List.drop_eq_getElem_cons hlt] at q2
        unfold loopD at q2
        refine ⟨μ2, ρ2, m2, l[i], e2.ext x3, s3, r3, ?_⟩
        cases hgd : g l[i] ρ2 m2 with
        | none => rw [hgd] at q2; exact q2.elim
        | some ρ3 =>
          rw [hgd] at q2
          refine ⟨ρ3, rfl, fun σ3 e3 _ => ⟨μ2, ρ3, m2, e3, s3, ?_⟩⟩
          have q3 := PostS.ext x3 q2
          rw [RS.opt_some] at q3
          cases hB : B ρ3 m2 with
          | nx ρ4 m4 => rw [hB] at q3; exact fun μ4 H4 σ4 x4 s4 e4 => ⟨rfl, hlt, μ4, ρ4, m4, (x2.trans x3).trans x4, e4, s4, PostS.ext x4 q3⟩
          | ct ρ4 m4 => rw [hB] at q3; exact fun μ4 H4 σ4 x4 s4 e4 => ⟨rfl, hlt, μ4, ρ4, m4, (x2.trans x3).trans x4, e4, s4, PostS.ext x4 q3⟩
          | bk ρ4 m4 => rw [hB] at q3; exact q3
          | rt d m4 => rw [hB] at q3; exact q3
          | ex c ns vs ρ4 m4 => rw [hB] at q3; exact q3
          | no => rw [hB] at q3; exact q3
    · have e : i = l.length := by omega
      subst e
      refine .inl ⟨it.stop H2 x2.kept, ?_⟩
      rw [List.drop_length] at q2
      exact q2.nx_here s2 e2)⟩
end

/-! ### while -/
def whileD (A : BS) (B : SS) : Nat → Env → List C → RS
  | 0, _, _ => .no
  | n + 1, ρ, m => (A ρ m).go ρ fun k m1 => if k then (B ρ m1).turn (fun ρ2 m2 => whileD A B n ρ2 m2) else .nx ρ m1
theorem whileD_more {A : BS} {B : SS} : ∀ {n : Nat} {ρ : Env} {m : List C}, whileD A B n ρ m ≠ .no → ∀ k, whileD A B (n + k) ρ m = whileD A B n ρ m
  | 0, _, _, h, _ => absurd rfl h
  | n + 1, ρ, m, h, k => by
    rw [show n + 1 + k = (n + k) + 1 by omega]
    unfold whileD at h ⊢
    cases hA : A ρ m with
    | no => rfl
    | exc c ns vs m1 => rfl
    | ok b m1 =>
      rw [hA] at h
      simp only [R.go_ok] at h ⊢
      cases b with
      | false => rfl
      | true =>
        simp only [if_true] at h ⊢
        cases hB : B ρ m1 with
        | nx ρ2 m2 => rw [hB] at h; exact whileD_more h k
        | ct ρ2 m2 => rw [hB] at h; exact whileD_more h k
        | _ => rfl
open Classical in
/-- the loop with as many turns as it wants -/
noncomputable def sWhile (A : BS) (B : SS) : SS := fun ρ m => if h : ∃ n, whileD A B n ρ m ≠ .no then whileD A B h.choose ρ m else .no
theorem sWhile_of {A : BS} {B : SS} {n : Nat} {ρ : Env} {m : List C} (h : whileD A B n ρ m ≠ .no) : sWhile A B ρ m = whileD A B n ρ m := by
  have he : ∃ n, whileD A B n ρ m ≠ .no := ⟨n, h⟩
  unfold sWhile
  rw [dif_pos he]
  have h1 := whileD_more he.choose_spec n
  have h2 := whileD_more h he.choose
  rw [← h1, ← h2, Nat.add_comm]
theorem sWhile_eq (A : BS) (B : SS) (ρ : Env) (m : List C) : sWhile A B ρ m = (A ρ m).go ρ fun k m1 => if k then (B ρ m1).turn (fun ρ2 m2 => sWhile A B ρ2 m2) else .nx ρ m1 := by
  have one : ∀ n ρ m, whileD A B (n + 1) ρ m = (A ρ m).go ρ fun k m1 => if k then (B ρ m1).turn (fun ρ2 m2 => whileD A B n ρ2 m2) else .nx ρ m1 := fun _ _ _ => rfl
  have key : ∀ ρ m, (∀ n, whileD A B n ρ m = .no) → sWhile A B ρ m = .no := fun ρ m h => by
    unfold sWhile
    rw [dif_neg]
    rintro ⟨n, hn⟩
    exact hn (h n)
  cases hA : A ρ m with
  | no => exact key ρ m fun n => by cases n with
    | zero => rfl
    | succ n => rw [one, hA]; rfl
  | exc c ns vs m1 =>
    have e : whileD A B 1 ρ m = .ex c ns vs ρ m1 := by rw [one, hA]; rfl
    rw [sWhile_of (n := 1) (by rw [e]; exact fun z => nomatch z), e]
    rfl
  | ok b m1 =>
    cases b with
    | false =>
      have e : whileD A B 1 ρ m = .nx ρ m1 := by rw [one, hA]; rfl
      rw [sWhile_of (n := 1) (by rw [e]; exact fun z => nomatch z), e]
      rfl
    | true =>
      simp only [R.go_ok, if_true]
      have two : ∀ n, whileD A B (n + 1) ρ m = (B ρ m1).turn (fun ρ2 m2 => whileD A B n ρ2 m2) := fun n => by rw [one, hA]; rfl
      have rec_ : ∀ ρ2 m2, (∀ n, whileD A B (n + 1) ρ m = whileD A B n ρ2 m2) → sWhile A B ρ m = sWhile A B ρ2 m2 := fun ρ2 m2 h => by
        by_cases hx : ∃ n, whileD A B n ρ2 m2 ≠ .no
        · obtain ⟨n, hn⟩ := hx
          rw [sWhile_of hn, ← h n]
          exact sWhile_of (by rw [h n]; exact hn)
        · have h0 : ∀ n, whileD A B n ρ2 m2 = .no := fun n => Classical.byContradiction fun z => hx ⟨n, z⟩
          rw [key ρ2 m2 h0]
          exact key ρ m fun n => by cases n with
            | zero => rfl
            | succ n => rw [h n, h0]
      have fin : ∀ r, r ≠ RS.no → (∀ n, whileD A B (n + 1) ρ m = r) → sWhile A B ρ m = r := fun r hr h => by
        rw [sWhile_of (n := 1) (by rw [h 0]; exact hr), h 0]
      cases hB : B ρ m1 with
      | nx ρ2 m2 => exact rec_ ρ2 m2 fun n => by rw [two, hB]; rfl
      | ct ρ2 m2 => exact rec_ ρ2 m2 fun n => by rw [two, hB]; rfl
      | bk ρ2 m2 => exact fin _ (fun z => nomatch z) fun n => by rw [two, hB]; rfl
      | rt d m2 => exact fin _ (fun z => nomatch z) fun n => by rw [two, hB]; rfl
      | ex c ns vs ρ2 m2 => exact fin _ (fun z => nomatch z) fun n => by rw [two, hB]; rfl
      | no => exact key ρ m fun n => by cases n with
        | zero => rfl
        | succ n => rw [two, hB]; rfl
section
variable {X : Cx} {T : List (Addr × Str)} {W : WX} {c : Expr} {A : BS} {B : SS} {body : List Stmt} {pos : Pos}
theorem ds_while (hp : PassesOwn (model X.prog X.w) X.A X.env X.xe) (hc : DT X T W c A) (hb : DSs X T W body B) : DS X T W (.While c body [] pos) (sWhile A B) :=
  ⟨(ps_while hp hc.run hb.run).weak fun Z σ H ⟨μ, ρ, m, er, s, q⟩ => by
    have hx : ∃ n, whileD A B n ρ m ≠ .no := Classical.byContradiction fun z => by
      unfold sWhile at q
      rw [dif_neg z] at q
      exact q
    obtain ⟨n, hn⟩ := hx
    rw [sWhile_of hn] at q
    refine ⟨fun n σ2 H2 => ∃ μ2 ρ2 m2, Ext μ H μ2 H2 ∧ ERep X.K μ2 H2 ρ2 σ2 ∧ Sto T X.K μ2 H2 m2 ∧ PostS X.K T W μ2 H2 (whileD A B n ρ2 m2) Z, ⟨n, μ, ρ, m, .refl _ _, er, s, q⟩, ?_⟩
    rintro n σ2 H2 ⟨μ2, ρ2, m2, x2, e2, s2, q2⟩
    cases n with
    | zero => exact q2.elim
    | succ n =>
      unfold whileD at q2
      refine tG_mk e2 s2 (q2.go e2 fun k m3 μ3 H3 b x3 s3 r3 q3 => ?_)
      cases r3
      cases k with
      | false => exact iteF (q3.nx_here s3 (e2.ext x3))
      | true =>
        refine iteT ⟨_, fun σ' H' w => ⟨n, Nat.lt_succ_self n, w⟩, μ3, ρ2, m3, e2.ext x3, s3, ?_⟩
        simp only [if_true] at q3
        cases hB : B ρ2 m3 with
        | nx ρ4 m4 => rw [hB] at q3; exact fun μ4 H4 σ4 x4 s4 e4 => ⟨μ4, ρ4, m4, (x2.trans x3).trans x4, e4, s4, PostS.ext x4 q3⟩
        | ct ρ4 m4 => rw [hB] at q3; exact fun μ4 H4 σ4 x4 s4 e4 => ⟨μ4, ρ4, m4, (x2.trans x3).trans x4, e4, s4, PostS.ext x4 q3⟩
        | bk ρ4 m4 => rw [hB] at q3; exact q3
        | rt d m4 => rw [hB] at q3; exact q3
        | ex c ns vs ρ4 m4 => rw [hB] at q3; exact q3
        | no => rw [hB] at q3; exact q3⟩
end
end DL


/-! DLe: list comprehensions of the tree layer. -/
namespace DL
open PySem PySem.Spec L2
open PyProof.Rows hiding St

def wipeD (ρ : Env) : List Nat → Env
  | [] => ρ
  | v :: vs => (wipeD ρ vs).set v none
theorem ERep.wipe {K : PySem.W.Frag} {μ : List Addr} {H : Hp} {ρ : Env} {σ : L2.St} (h : ERep K μ H ρ σ) : ∀ vs, ERep K μ H (wipeD ρ vs) (L2.wipe σ vs)
  | [] => h
  | v :: vs => (h.wipe vs).unset
theorem wipe_get {σ : L2.St} : ∀ {vs : List Nat} {j : Nat}, (L2.wipe σ vs)[j]? = if j ∈ vs then (if j < σ.length then some none else none) else σ[j]?
  | [], j => by simp [L2.wipe]
  | v :: vs, j => by
    unfold L2.wipe
    by_cases hv : j = v
    · subst hv
      rw [if_pos List.mem_cons_self]
      split
      · rename_i h
        rw [List.getElem?_set_self (by rw [L2.wipe_length]; exact h)]
      · rename_i h
        rw [List.getElem?_eq_none (by rw [List.length_set, L2.wipe_length]; omega)]
    · rw [List.getElem?_set_ne (Ne.symm hv), wipe_get (vs := vs)]
      have : (j ∈ v :: vs) ↔ j ∈ vs := by simp [hv]
      by_cases h2 : j ∈ vs
      · rw [if_pos h2, if_pos (this.mpr h2)]
      · rw [if_neg h2, if_neg fun z => h2 (this.mp z)]
theorem wipe_same {σ σ' : L2.St} {ws vs : List Nat} (h : Else ws (L2.wipe σ vs) σ') (hs : ∀ j ∈ ws, j ∈ vs) : L2.wipe σ' vs = L2.wipe σ vs := by
  apply List.ext_getElem?
  intro j
  have hl : σ'.length = σ.length := h.1.trans (L2.wipe_length σ vs)
  by_cases hj : j ∈ vs
  · rw [wipe_get, wipe_get, if_pos hj, if_pos hj, hl]
  · have e := h.2 j fun z => hj (hs j z)
    rw [wipe_get, if_neg hj, e]

def compK (r : R Bool) (k1 k2 : List C → R (List D)) : R (List D) :=
  match r with
  | .ok true m => k1 m
  | .ok false m => k2 m
  | _ => .no
def compE (r : R D) (k : D → List C → R (List D)) : R (List D) :=
  match r with
  | .ok d m => k d m
  | _ => .no
def compO (o : Option Env) (k : Env → R (List D)) : R (List D) :=
  match o with
  | some ρ => k ρ
  | none => .no
@[simp] theorem compK_tt (m : List C) (k1 k2 : List C → R (List D)) : compK (.ok true m) k1 k2 = k1 m := rfl
@[simp] theorem compK_ff (m : List C) (k1 k2 : List C → R (List D)) : compK (.ok false m) k1 k2 = k2 m := rfl
@[simp] theorem compE_ok (d : D) (m : List C) (k : D → List C → R (List D)) : compE (.ok d m) k = k d m := rfl
@[simp] theorem compO_some (ρ : Env) (k : Env → R (List D)) : compO (some ρ) k = k ρ := rfl
/-- the turns of a comprehension -/
def compD (g : GS) (vs : List Nat) (A : BS) (F : ES) (ρ : Env) : List D → List C → R (List D)
  | [], m => .ok [] m
  | d :: ds, m => compO (g d (wipeD ρ vs) m) fun ρ1 => compK (A ρ1 m)
      (fun m1 => compE (F ρ1 m1) fun y m2 => (compD g vs A F ρ ds m2).bind fun ys m3 => .ok (y :: ys) m3)
      (fun m1 => compD g vs A F ρ ds m1)
def compEnd (l : List D) (m : List C) : R D := if fits l.length then .ok (.lst l) m else .no
def eLc (L : LS) (g : GS) (vs : List Nat) (A : BS) (F : ES) : ES := fun ρ m => (L ρ m).bind fun l m1 => (compD g vs A F ρ l m1).bind compEnd
def bYes : BS := fun _ m => .ok true m
abbrev W0 : WX := fun _ _ _ _ => False
section
variable {X : Cx} {T : List (Addr × Str)} {W : WX}
structure DTs (X : Cx) (T : List (Addr × Str)) (W : WX) (es : List Expr) (F : BS) : Prop where
  run : PTs X es (tG bRep T X.K W F)
theorem dts_nil : DTs X T W [] bYes := ⟨⟨fun pins s σ H Q I ⟨μ, ρ, m, e, st, q⟩ => pts_nil.run pins s σ H Q I (post_here (rp := bRep) (a := true) st rfl q)⟩⟩
theorem dts_one {c : Expr} {A : BS} (h : DT X T W c A) : DTs X T W [c] A := ⟨pts_one h.run⟩
variable {elt tg iter : Expr} {ifs : List Expr} {scope : Scope} {own : List (Str × Nat)} {pos : Pos} {L : LS} {g : GS} {ws : List Nat} {A : BS} {F : ES}
/-- the reading of a comprehension -/
theorem tLc_D {μ1 : List Addr} {H1 : Hp} {m1 : List C} {ρ : Env} {σ : L2.St} {J : It} {l : List D} {vs : List Nat} {Q : VK} (hws : ∀ j ∈ ws, j ∈ vs) (er : ERep X.K μ1 H1 ρ σ) (s1 : Sto T X.K μ1 H1 m1) (it : IterOk T X.K J l μ1 H1)
    (q1 : Post (Rep X.K) T X.K W σ μ1 H1 ((compD g vs A F ρ l m1).bind compEnd) Q) :
    ∀ D, H1 D = none → ∃ Wv : Nat → Nat → Hp → Prop, (∃ m, Wv 0 m (upd H1 D (.lst []))) ∧ ∀ i m H, Wv i m H →
      (J.stop i H ∧ FQ Q (.ref D) H) ∨ (J.go i H ∧ ∃ Nx : Hp → Prop, (∀ H', Nx H' → ∃ m', m' < m ∧ Wv (i + 1) m' H') ∧ ∀ x H', J.yld i H x H' → tT T X.K ws g x (L2.wipe σ vs) H' fun σ2 H2 => L2.wipe σ2 vs = L2.wipe σ vs ∧ tG bRep T X.K W0 A σ2 H2 fun b H3 =>
        if b = true then tG (Rep X.K) T X.K W0 F σ2 H3 fun y H4 => ∃ acc, H4 D = some (.lst acc) ∧ acc.length < sizeLine ∧ Nx (upd H4 D (.lst (acc ++ [y]))) else Nx H3) := by
  intro D hD
  -- the state at turn i: the new list holds acc, which stands for ys; what is wanted is told from H1 on
  let Inv : Nat → Hp → Prop := fun i H => i ≤ l.length ∧ ∃ μ m acc ys, Ext μ1 H1 μ H ∧ Sto T X.K μ H m ∧ H D = some (.lst acc) ∧ D ∉ μ ∧ RepL X.K μ H ys acc ∧
    Post (Rep X.K) T X.K W σ μ1 H1 ((compD g vs A F ρ (l.drop i) m).bind fun zs m' => compEnd (ys ++ zs) m') Q
  refine ⟨fun i n H => n = l.length - i ∧ Inv i H, ⟨l.length, by simp, Nat.zero_le _, μ1, m1, [], [], .new hD, s1.new hD, upd_same, ?_, rfl, ?_⟩, ?_⟩
  · intro z
    obtain ⟨o, e⟩ := s1.mem z
    rw [hD] at e
    cases e
  · rw [List.drop_zero]
    exact q1
  rintro i n H ⟨rfl, hi, μ, m, acc, ys, xb, sb, hDb, nD, ra, q⟩
  by_cases hlt : i < l.length
  · refine .inr ⟨it.go i H xb.kept hlt, fun H' => l.length - (i + 1) = l.length - (i + 1) ∧ Inv (i + 1) H', fun H' w => ⟨l.length - (i + 1), by omega, w⟩, fun x H' hy => ?_⟩
    have hd : l[i]? = some l[i] := List.getElem?_eq_getElem hlt
    obtain ⟨x3, s3, r3⟩ := it.yld i H x H' μ m _ xb.kept xb.pre sb hd hy
    have keepD : ∀ {μ' : List Addr} {H2 : Hp}, Ext μ H μ' H2 → H2 D = some (.lst acc) ∧ D ∉ μ' := fun {μ' H2} x => by
      refine ⟨?_, fun z => ?_⟩
      · rcases x.frame D _ hDb nD with e | ⟨_, e⟩
        · exact e
        · cases e
      · rcases x.fresh D z nD with e | ⟨_, e⟩ <;> (rw [e] at hDb; cases hDb)
    rw [List.drop_eq_getElem_cons hlt] at q
    unfold compD at q
    refine ⟨μ, wipeD ρ vs, m, l[i], ((er.ext xb).ext x3).wipe vs, s3, r3, ?_⟩
    cases hg : g l[i] (wipeD ρ vs) m with
    | none => rw [hg] at q; exact q.elim
    | some ρ3 =>
      rw [hg] at q
      refine ⟨ρ3, rfl, fun σ3 e3 el => ⟨wipe_same el hws, μ, ρ3, m, e3, s3, ?_⟩⟩
      rw [compO_some] at q
      cases hA : A ρ3 m with
      | no => rw [hA] at q; exact q.elim
      | exc c ns vs m4 => rw [hA] at q; exact q.elim
      | ok b m4 =>
        rw [hA] at q
        intro μ4 H4 b' x4 s4 eb
        cases eb
        cases b with
        | false =>
          rw [compK_ff] at q
          exact iteF ⟨rfl, hlt, μ4, m4, acc, ys, xb.trans (x3.trans x4), s4, (keepD (x3.trans x4)).1, (keepD (x3.trans x4)).2, ra.ext (x3.trans x4), q⟩
        | true =>
          rw [compK_tt] at q
          refine iteT ⟨μ4, ρ3, m4, e3.ext x4, s4, ?_⟩
          cases hF : F ρ3 m4 with
          | no => rw [hF] at q; exact q.elim
          | exc c ns vs m5 => rw [hF] at q; exact q.elim
          | ok y m5 =>
            rw [hF, compE_ok] at q
            intro μ5 H5 v x5 s5 rv
            have xa := (x3.trans x4).trans x5
            have n5 : H5 D = some (.lst acc) := (keepD xa).1
            have nD5 : D ∉ μ5 := (keepD xa).2
            have kp : Kept H5 (upd H5 D (.lst (acc ++ [v]))) := .mut (by rw [n5]; trivial)
            have ex : Ext μ1 H1 μ5 (upd H5 D (.lst (acc ++ [v]))) := by
              have x0 := xb.trans xa
              refine ⟨x0.pre, x0.kept.trans kp, fun a o h n => ?_, x0.fresh⟩
              rw [upd_ne (ne_of_none h hD)]
              exact x0.frame a o h n
            have q' : Post (Rep X.K) T X.K W σ μ1 H1 ((compD g vs A F ρ (l.drop (i + 1)) m5).bind fun zs m' => compEnd (ys ++ (y :: zs)) m') Q := by
              cases hC : compD g vs A F ρ (l.drop (i + 1)) m5 with
              | no => rw [hC] at q; exact q
              | exc c ns vs m6 => exact (noExc hC).elim
              | ok zs m6 => rw [hC] at q; exact q
            refine ⟨acc, n5, ?_, rfl, hlt, μ5, m5, acc ++ [v], ys ++ [y], ex, ⟨s5.len, s5.nd, fun k c a e1 e2 => ?_, tabs_set s5.tab (by rw [n5]; trivial)⟩, upd_same, nD5, ?_, ?_⟩
            · -- the size
              cases hC : compD g vs A F ρ (l.drop (i + 1)) m5 with
              | no => rw [hC] at q'; exact q'.elim
              | exc c ns vs m6 => exact (noExc hC).elim
              | ok zs m6 =>
                rw [hC] at q'
                have q2 : Post (Rep X.K) T X.K W σ μ1 H1 (compEnd (ys ++ (y :: zs)) m6) Q := q'
                unfold compEnd at q2
                split at q2
                · rename_i hf
                  have h1 := fits_iff.mp hf
                  rw [List.length_append, List.length_cons, ra.length] at h1
                  exact Nat.lt_of_lt_of_le (by omega) h1
                · exact q2.elim
            · refine (s5.rep k c a e1 e2).keep kp (List.prefix_refl _) fun u hu => ?_
              rw [upd_ne (fun z => nD5 (by rw [← z]; exact List.mem_of_getElem? e2))]
              exact fun _ => hu
            · exact ((ra.ext xa).keep kp (List.prefix_refl _)).append (.cons (rv.keep kp (List.prefix_refl _)) .nil)
            · simpa only [List.append_assoc, List.cons_append, List.nil_append] using q'
  · have e : i = l.length := by omega
    subst e
    rw [List.drop_length] at q
    refine .inl ⟨it.stop H xb.kept, ?_⟩
    have q2 : Post (Rep X.K) T X.K W σ μ1 H1 (compEnd (ys ++ []) m) Q := q
    rw [List.append_nil] at q2
    unfold compEnd at q2
    split at q2
    · refine .inr ⟨D, .lst acc, rfl, hDb, trivial, fun od => ?_⟩
      have kp : Kept H (upd H D (.frz od (.lst acc))) := .mut (by rw [hDb]; trivial)
      refine q2 μ _ _ ⟨xb.pre, xb.kept.trans kp, fun a o h n => ?_, xb.fresh⟩ ⟨sb.len, sb.nd, fun k c a e1 e2 => ?_, tabs_set sb.tab (by rw [hDb]; trivial)⟩ ⟨D, acc, rfl, ⟨od, upd_same⟩, ra.keep kp (List.prefix_refl _)⟩
      · rw [upd_ne (ne_of_none h hD)]
        exact xb.frame a o h n
      · refine (sb.rep k c a e1 e2).keep kp (List.prefix_refl _) fun u hu => ?_
        rw [upd_ne (fun z => nD (by rw [← z]; exact List.mem_of_getElem? e2))]
        exact fun _ => hu
    · exact q2.elim
where
  noExc {g : GS} {vs : List Nat} {A : BS} {F : ES} {ρ : Env} {l : List D} {m : List C} {c : Addr} {ns : List Str} {xs : List D} {m' : List C} (h : compD g vs A F ρ l m = .exc c ns xs m') : False := by
    induction l generalizing m c ns xs m' with
    | nil => cases h
    | cons d ds ih =>
      unfold compD at h
      cases hg : g d (wipeD ρ vs) m with
      | none => rw [hg] at h; cases h
      | some ρ1 =>
        rw [hg, compO_some] at h
        cases hA : A ρ1 m with
        | no => rw [hA] at h; cases h
        | exc _ _ _ _ => rw [hA] at h; cases h
        | ok b m1 =>
          rw [hA] at h
          cases b with
          | false => exact ih h
          | true =>
            rw [compK_tt] at h
            cases hF : F ρ1 m1 with
            | no => rw [hF] at h; cases h
            | exc _ _ _ _ => rw [hF] at h; cases h
            | ok y m2 =>
              rw [hF, compE_ok] at h
              cases hC : compD g vs A F ρ ds m2 with
              | no => rw [hC] at h; cases h
              | ok _ _ => rw [hC] at h; cases h
              | exc _ _ _ _ => exact ih hC
theorem de_lc (hc : X.calm = true) (hN : X.N.Nodup) (hi : DI X T W tg iter L) (ok : BlkOk X.N X.env.scope scope own)
    (hg : ∀ (s : Shared) (H : Hp) (C : Addr) (cl : List (Str × Addr)) (fp : List Addr), DG (X.blk s H scope (compEnvC scope cl C X.env) fp) T tg ws g) (ht : ∀ (s : Shared) (H : Hp) (C : Addr) (cl : List (Str × Addr)) (fp : List Addr), DTs (X.blk s H scope (compEnvC scope cl C X.env) fp) T W0 ifs A)
    (he : ∀ (s : Shared) (H : Hp) (C : Addr) (cl : List (Str × Addr)) (fp : List Addr), DE (X.blk s H scope (compEnvC scope cl C X.env) fp) T W0 elt F) (hws : ∀ j ∈ ws, j ∈ own.map (·.2) := by decide) (hs : ∀ x, foldedSetIterable iter X.env x = pure x := by intro _; rfl) :
    DE X T W (.ListComp elt [⟨tg, iter, ifs, 0⟩] scope pos) (eLc L g (own.map (·.2)) A F) :=
  ⟨(pe_frz (pe_lc hc hN hi.run ok (fun s H C cl fp => (hg s H C cl fp).run) (fun s H C cl fp => (ht s H C cl fp).run) (fun s H C cl fp => (he s H C cl fp).run) hs)).weak fun σ H Q ⟨μ, ρ, m, er, s, q⟩ =>
    tG_mk er s (q.bind fun l m1 μ1 H1 J x1 s1 it q1 => tLc_D hws (er.ext x1) s1 it q1)⟩
/-- freezing behind a statement -/
theorem ps_frz {st : Stmt} {t : TS} (h : PS X st t) : PS X st (fun Z σ H => t { Z with nx := fun σ' H' => Z.nx σ' H' ∨ ∃ a u, H' a = some u ∧ Mut (some u) ∧ ∀ od, Z.nx σ' (upd H' a (.frz od u)) } σ H) := by
  refine ⟨fun pins s σ H Z I q => thn (h.run pins s σ H _ I q) fun f s' z => ?_⟩
  cases f with
  | next =>
    obtain ⟨σ', H', I', q'⟩ := z
    rcases q' with q' | ⟨a, u, e, mu, q'⟩
    · exact ⟨σ', H', I', q'⟩
    · obtain ⟨od, I2⟩ := I'.lock e mu
      exact ⟨σ', _, I2, q' od⟩
  | brk => exact z
  | cont => exact z
  | ret v => exact z
/-- name = [..] -/
theorem ds_setLc {i : Nat} {y : Str} {py : Pos} {spos : Pos} (hc : X.calm = true) (hN : X.N.Nodup) (hy : X.N[i]? = some y) (hyl : X.env.scope.names.lookup y = some .local)
    (hsw : swapsWith (.ListComp elt [⟨tg, iter, ifs, 0⟩] scope pos) (some (.Name y py)) spos.line X.env = pure true) (hi : DI X T W tg iter L) (ok : BlkOk X.N X.env.scope scope own)
    (hg : ∀ (s : Shared) (H : Hp) (C : Addr) (cl : List (Str × Addr)) (fp : List Addr), DG (X.blk s H scope (compEnvC scope cl C X.env) fp) T tg ws g) (ht : ∀ (s : Shared) (H : Hp) (C : Addr) (cl : List (Str × Addr)) (fp : List Addr), DTs (X.blk s H scope (compEnvC scope cl C X.env) fp) T W0 ifs A)
    (he : ∀ (s : Shared) (H : Hp) (C : Addr) (cl : List (Str × Addr)) (fp : List Addr), DE (X.blk s H scope (compEnvC scope cl C X.env) fp) T W0 elt F) (hws : ∀ j ∈ ws, j ∈ own.map (·.2) := by decide) (hs : ∀ x, foldedSetIterable iter X.env x = pure x := by intro _; rfl) :
    DS X T W (.Assign [.Name y py] (.ListComp elt [⟨tg, iter, ifs, 0⟩] scope pos) spos) (sSet i (eLc L g (own.map (·.2)) A F)) :=
  ⟨(ps_frz (ps_setLc hc hN hy hyl hsw hi.run ok (fun s H C cl fp => (hg s H C cl fp).run) (fun s H C cl fp => (ht s H C cl fp).run) (fun s H C cl fp => (he s H C cl fp).run) hs)).weak fun Z σ H ⟨μ, ρ, m, er, s, q⟩ => by
    have q0 : PostS X.K T W μ H ((eLc L g (own.map (·.2)) A F ρ m).go ρ fun d m1 => .nx (ρ.set i (some d)) m1) Z := q
    have p0 : Post (Rep X.K) T X.K W σ μ H (eLc L g (own.map (·.2)) A F ρ m) (fun v H' => Z.nx (σ.set i (some v)) H') := q0.go er fun d m1 μ1 H1 v x1 s1 r1 q1 => q1.nx_here s1 ((er.ext x1).set r1)
    refine tG_mk er s (p0.bind fun l m1 μ1 H1 J x1 s1 it q1 D hD => ?_)
    obtain ⟨Wv, w0, turn⟩ := tLc_D hws (er.ext x1) s1 it q1 D hD
    refine ⟨Wv, w0, fun i' n H' w => ?_⟩
    rcases turn i' n H' w with ⟨st, fq⟩ | go
    · refine .inl ⟨st, ?_⟩
      rcases fq with z | ⟨a, u, e, h1, h2, h3⟩
      · exact .inl z
      · cases e
        exact .inr ⟨D, u, h1, h2, h3⟩
    · exact .inr go⟩
end
end DL


/-! DLf: operators, subscripts, slices, built-in functions on trees of data. -/
namespace DL
open PySem PySem.Spec L2
open PyProof.Rows hiding St

/-! ### arithmetic -/
def addD : D → D → List C → R D
  | .int i, .int j, m => .ok (.int (i + j)) m
  | .str x, .str y, m => if fits (x.length + y.length) then .ok (.str (x ++ y)) m else .no
  | .tup l, .tup k, m => if fits (l.length + k.length) then .ok (.tup (l ++ k)) m else .no
  | a, b, m => match lstOf m a, lstOf m b with
    | some l, some k => if fits (l.length + k.length) then .ok (.lst (l ++ k)) m else .no
    | _, _ => .no
def subD : D → D → List C → R D
  | .int i, .int j, m => .ok (.int (i - j)) m
  | _, _, _ => .no
def mulOk (i j : Int) : Bool := decide (i.natAbs.log2 + j.natAbs.log2 < 1000000)
def mulD : D → D → List C → R D
  | .int i, .int j, m => if mulOk i j then .ok (.int (i * j)) m else .no
  | _, _, _ => .no
def divOk (j : Int) : Bool := decide (0 < j) && decide (j.natAbs.log2 < 9000)
def fdivD : D → D → List C → R D
  | .int i, .int j, m => if divOk j then .ok (.int (i / j)) m else .no
  | _, _, _ => .no
def modD : D → D → List C → R D
  | .int i, .int j, m => if decide (0 < j) then .ok (.int (i % j)) m else .no
  | _, _, _ => .no
def powOk (i j : Int) : Bool := decide (0 ≤ j) && decide (j ≤ 1000000) && decide (i.natAbs < 2 ^ 64)
def powD : D → D → List C → R D
  | .int i, .int j, m => if powOk i j then .ok (.int (i ^ j.toNat)) m else .no
  | _, _, _ => .no
def negD : D → List C → R D
  | .int i, m => .ok (.int (-i)) m
  | _, _ => .no
section
variable {X : Cx} {T : List (Addr × Str)}
/-- lists that are read: whole values -/
theorem lstR {pins : List (Addr × Obj)} {σ : L2.St} {H : Hp} {s : Shared} {a : Addr} {xs : List V} (I : Inv X pins σ H s) (h : Rd H a (.lst xs)) : ∃ (its : List Value) (n : Nat), Vals xs its ∧ xs.length = its.length ∧ s.heap.get? a = some { cls := .type "list", data := .seq its.toArray n } := by
  obtain ⟨_, its, n, r, e⟩ := h.ok I.hok
  exact ⟨its, n, r, r.length, e⟩
def rCatL : R2 := fun x y H Q => ∃ l b xs zs, x = .ref l ∧ y = .ref b ∧ Rd H l (.lst xs) ∧ Rd H b (.lst zs) ∧ xs.length + zs.length ≤ sizeLine ∧ ∀ p, H p = none → Q (.ref p) (upd H p (.lst (xs ++ zs)))
theorem op_catL : OpR X (binaryOp .Add) rCatL := by
  intro pins s σ H x y v u Q I rx ry h
  obtain ⟨l, b, xs, zs, rfl, rfl, hH, hB, hz, q⟩ := h
  cases rx
  cases ry
  obtain ⟨its, n, r, hl, e⟩ := lstR I hH
  obtain ⟨its2, n2, r2, hl2, e2⟩ := lstR I hB
  refine PySem.P.add_list e e2 ?_ (by rw [List.size_toArray, List.size_toArray]; omega)
  have ea : its.toArray ++ its2.toArray = (its ++ its2).toArray := by simp
  rw [ea]
  exact ⟨.ref _, _, I.lnew (t' := s.toks) (r.append r2) (by rw [List.length_append]; omega), rfl, q _ I.fresh⟩
/-- t + u -/
def rCatF (K : PySem.W.Frag) : R2 := fun x y H Q => ∃ a b xs ys, x = .ref a ∧ y = .ref b ∧ SqT K H a xs ∧ SqT K H b ys ∧ xs.length + ys.length ≤ sizeLine ∧
  (xs = [] → Q (.ref b) H) ∧ (xs ≠ [] → ys = [] → Q (.ref a) H) ∧ (xs ≠ [] → ys ≠ [] → ∀ p o, o.dict = none → H p = none → Q (.ref p) (upd H p (.frz o (.tup (xs ++ ys)))))
theorem op_catF : OpR X (binaryOp .Add) (rCatF X.K) := by
  intro pins s σ H x y v u Q I rx ry h
  obtain ⟨a, b, xs, ys, rfl, rfl, ha, hb, hz, q0, q1, q2⟩ := h
  by_cases hx : xs = []
  · subst hx
    cases rx
    cases ry
    obtain ⟨its, r1, p1, _⟩ := I.tuple ha
    obtain ⟨its2, r2, p2, _⟩ := I.tuple hb
    cases r1
    exact cat_tup0 p1 p2 ⟨.ref b, H, I, rfl, q0 rfl⟩
  · cases rx
    cases ry
    obtain ⟨its, r1, p1, _⟩ := I.tuple ha
    obtain ⟨its2, r2, p2, _⟩ := I.tuple hb
    refine HT.cat_tup p1 p2 (fun z => hx (r1.nil_iff.mp z)) (fun z => ⟨.ref a, H, I, rfl, q1 hx (r2.nil_iff.mp z)⟩) (fun z => ?_) (by rw [← r1.length, ← r2.length]; exact hz)
    exact ⟨.ref s.heap.objs.size, _, I.laidT (tk := s.toks) (by rw [List.length_append]; exact hz) (r1.append r2), rfl, q2 hx (fun w => z (r2.nil_iff.mpr w)) _ _ rfl (I.hok.fresh (Nat.le_refl _))⟩
def rAddA (K : PySem.W.Frag) : R2 := fun x y H Q => rI0 (fun i j => .int (i + j)) x y H Q ∨ (∃ i j, x = .str i ∧ y = .str j ∧ i.length + j.length ≤ sizeLine ∧ Q (.str (i ++ j)) H) ∨ rCatF K x y H Q ∨ rCatL x y H (FQ Q)
theorem op_addA : OpR X (binaryOp .Add) (rAddA X.K) := op_add.or (op_add_str.or (op_catF.or op_catL.frz))
theorem addD_ok : OpD X T addD (rAddA X.K) := by
  intro W σ μ H m d1 d2 x y Q S r1 r2 q
  unfold addD at q
  split at q
  · cases r1; cases r2
    exact .inl ⟨_, _, rfl, rfl, post_here (a := D.int _) S rfl q⟩
  · cases r1; cases r2
    split at q
    · rename_i hf
      exact .inr (.inl ⟨_, _, rfl, rfl, fits_iff.mp hf, post_here (a := D.str _) S rfl q⟩)
    · exact q.elim
  · obtain ⟨a, xs, rfl, s1, q1⟩ := r1
    obtain ⟨b, ys, rfl, s2, q2⟩ := r2
    split at q
    · rename_i l k hf
      have hz := fits_iff.mp hf
      rw [q1.length, q2.length] at hz
      refine .inr (.inr (.inl ⟨a, b, xs, ys, rfl, rfl, s1.sqt, s2.sqt, hz, fun e => ?_, fun _ e => ?_, fun _ _ => post_newT S (q1.append q2) q⟩))
      · subst e
        exact post_here (a := D.tup _) S ⟨b, ys, rfl, s2, q1.append q2⟩ q
      · subst e
        refine post_here (a := D.tup _) S ⟨a, xs, rfl, s1, ?_⟩ q
        have := q1.append q2
        rwa [List.append_nil] at this
    · exact q.elim
  · split at q
    · rename_i l k h1 h2
      obtain ⟨a, xs, rfl, s1, q1⟩ := lstOf_rd S r1 h1
      obtain ⟨b, ys, rfl, s2, q2⟩ := lstOf_rd S r2 h2
      split at q
      · rename_i hf
        have hz := fits_iff.mp hf
        rw [q1.length, q2.length] at hz
        exact .inr (.inr (.inr ⟨a, b, xs, ys, rfl, rfl, s1, s2, hz, post_newL S (q1.append q2) q⟩))
      · exact q.elim
    · exact q.elim
theorem subD_ok : OpD X T subD (rI0 fun i j => .int (i - j)) := by
  intro W σ μ H m d1 d2 x y Q S r1 r2 q
  unfold subD at q
  split at q
  · cases r1; cases r2
    exact ⟨_, _, rfl, rfl, post_here (a := D.int _) S rfl q⟩
  · exact q.elim
theorem mulD_ok : OpD X T mulD (rI CMulW fun i j => .int (i * j)) := by
  intro W σ μ H m d1 d2 x y Q S r1 r2 q
  unfold mulD at q
  split at q
  · cases r1; cases r2
    split at q
    · rename_i h
      unfold mulOk at h
      rw [decide_eq_true_eq] at h
      exact ⟨_, _, rfl, rfl, h, post_here (a := D.int _) S rfl q⟩
    · exact q.elim
  · exact q.elim
theorem fdivD_ok : OpD X T fdivD (rI CDivW fun i j => .int (i / j)) := by
  intro W σ μ H m d1 d2 x y Q S r1 r2 q
  unfold fdivD at q
  split at q
  · cases r1; cases r2
    split at q
    · rename_i h
      unfold divOk at h
      rw [Bool.and_eq_true, decide_eq_true_eq, decide_eq_true_eq] at h
      exact ⟨_, _, rfl, rfl, h, post_here (a := D.int _) S rfl q⟩
    · exact q.elim
  · exact q.elim
theorem modD_ok : OpD X T modD (rI (fun _ j => 0 < j) fun i j => .int (i % j)) := by
  intro W σ μ H m d1 d2 x y Q S r1 r2 q
  unfold modD at q
  split at q
  · cases r1; cases r2
    split at q
    · rename_i h
      exact ⟨_, _, rfl, rfl, of_decide_eq_true h, post_here (a := D.int _) S rfl q⟩
    · exact q.elim
  · exact q.elim
theorem powD_ok : OpD X T powD (rI CPow fun i j => .int (i ^ j.toNat)) := by
  intro W σ μ H m d1 d2 x y Q S r1 r2 q
  unfold powD at q
  split at q
  · cases r1; cases r2
    split at q
    · rename_i h
      unfold powOk at h
      rw [Bool.and_eq_true, Bool.and_eq_true, decide_eq_true_eq, decide_eq_true_eq, decide_eq_true_eq] at h
      exact ⟨_, _, rfl, rfl, ⟨h.1.1, h.1.2, h.2⟩, post_here (a := D.int _) S rfl q⟩
    · exact q.elim
  · exact q.elim
theorem negD_ok : UnD X T negD (rU fun i => .int (-i)) := by
  intro W σ μ H m d1 x Q S r1 q
  unfold negD at q
  split at q
  · cases r1
    exact ⟨_, rfl, post_here (a := D.int _) S rfl q⟩
  · exact q.elim
end

/-! ### comparisons -/
def cmpD (p : Int → Int → Bool) : D → D → List C → R D
  | .int i, .int j, m => .ok (.bl (p i j)) m
  | _, _, _ => .no
mutual
def D.data : D → Option PyData
  | .non => some .none
  | .bl b => some (.bool b)
  | .int i => some (.int i)
  | .str x => some (.str x)
  | .tup l => (D.dataL l).map .tuple
  | .lst l => (D.dataL l).map .list
  | _ => none
def D.dataL : List D → Option (List PyData)
  | [] => some []
  | d :: l => (D.data d).bind fun x => (D.dataL l).map fun xs => x :: xs
end
def dataOf (m : List C) (d : D) : Option PyData := match d with
  | .cell _ => (lstOf m d).bind fun l => (D.dataL l).map .list
  | d => d.data
def eqD : D → D → List C → R D := fun a b m => match dataOf m a, dataOf m b with
  | some x, some y => if SeqAt.shaped x && SeqAt.shaped y then .ok (.bl (PyData.eqv x y)) m else .no
  | _, _ => .no
def neD : D → D → List C → R D := fun a b m => match dataOf m a, dataOf m b with
  | some x, some y => if SeqAt.shaped x && SeqAt.shaped y then .ok (.bl (!PyData.eqv x y)) m else .no
  | _, _ => .no
section
variable {K : PySem.W.Frag} {μ : List Addr} {H : Hp}
mutual
theorem data_dp : ∀ (d : D) {v : V} {x : PyData}, Rep K μ H d v → d.data = some x → Dp K H v x
  | .non, _, _, r, e => by cases r; cases e; exact .non
  | .bl _, _, _, r, e => by cases r; cases e; exact .bl _
  | .int _, _, _, r, e => by cases r; cases e; exact .int _
  | .str _, _, _, r, e => by cases r; cases e; exact .str _
  | .tup l, _, _, r, e => by
    obtain ⟨a, xs, rfl, s, q⟩ := r
    unfold D.data at e
    cases h : D.dataL l with
    | none => rw [h] at e; cases e
    | some ys =>
      rw [h] at e
      cases e
      exact .tup s.sqt (data_dpL l q h)
  | .lst l, _, _, r, e => by
    obtain ⟨a, xs, rfl, s, q⟩ := r
    unfold D.data at e
    cases h : D.dataL l with
    | none => rw [h] at e; cases e
    | some ys =>
      rw [h] at e
      cases e
      exact .lst s.sql (data_dpL l q h)
  | .ty _, _, _, _, e => by simp [D.data] at e
  | .tmp _, _, _, _, e => by simp [D.data] at e
  | .dic _ _, _, _, _, e => by simp [D.data] at e
  | .ref _, _, _, _, e => by simp [D.data] at e
  | .cell _, _, _, _, e => by simp [D.data] at e
  | .lam _ _ _ _ _, _, _, _, e => by simp [D.data] at e
  | .scr _, _, _, _, e => by simp [D.data] at e
theorem data_dpL : ∀ (l : List D) {vs : List V} {xs : List PyData}, RepL K μ H l vs → D.dataL l = some xs → DpAll K H vs xs
  | [], _, _, r, e => by cases r; cases e; exact .nil
  | d :: l, _, _, r, e => by
    obtain ⟨v, vs, rfl, r1, r2⟩ := r
    unfold D.dataL at e
    cases h1 : d.data with
    | none => rw [h1] at e; cases e
    | some x =>
      rw [h1] at e
      cases h2 : D.dataL l with
      | none => rw [h2] at e; cases e
      | some xs =>
        rw [h2] at e
        cases e
        exact .cons (data_dp d r1 h1) (data_dpL l r2 h2)
end
theorem dataOf_dp {T : List (Addr × Str)} {m : List C} (S : Sto T K μ H m) {d : D} {v : V} {x : PyData} (r : Rep K μ H d v) (e : dataOf m d = some x) : Dp K H v x := by
  unfold dataOf at e
  split at e
  · rename_i n
    cases h : lstOf m (.cell n) with
    | none => rw [h] at e; cases e
    | some l =>
      rw [h] at e
      obtain ⟨a, xs, rfl, s, q⟩ := lstOf_rep S r h
      cases h2 : D.dataL l with
      | none => simp [h2] at e
      | some ys =>
        simp only [h2, Option.bind_some, Option.map_some, Option.some.injEq] at e
        subst e
        exact .lst s (data_dpL l q h2)
  · exact data_dp d r e
end
def D.isNon : D → Bool
  | .non => true
  | _ => false
def isND : D → D → List C → R D := fun a b m => match b with
  | .non => .ok (.bl a.isNon) m
  | _ => .no
def notND : D → D → List C → R D := fun a b m => match b with
  | .non => .ok (.bl (!a.isNon)) m
  | _ => .no
section
variable {X : Cx} {T : List (Addr × Str)}
theorem cmpD_ok {p : Int → Int → Bool} : OpD X T (cmpD p) (rI0 fun i j => .bl (p i j)) := by
  intro W σ μ H m d1 d2 x y Q S r1 r2 q
  unfold cmpD at q
  split at q
  · cases r1; cases r2
    exact ⟨_, _, rfl, rfl, post_here (a := D.bl _) S rfl q⟩
  · exact q.elim
theorem eqD_ok : OpD X T eqD (rEqD X.K) := by
  intro W σ μ H m d1 d2 x y Q S r1 r2 q
  unfold eqD at q
  split at q
  · rename_i a b h1 h2
    split at q
    · rename_i hs
      rw [Bool.and_eq_true] at hs
      exact ⟨a, b, dataOf_dp S r1 h1, dataOf_dp S r2 h2, hs.1, hs.2, post_here (a := D.bl _) S rfl q⟩
    · exact q.elim
  · exact q.elim
theorem neD_ok : OpD X T neD (rNeD X.K) := by
  intro W σ μ H m d1 d2 x y Q S r1 r2 q
  unfold neD at q
  split at q
  · rename_i a b h1 h2
    split at q
    · rename_i hs
      rw [Bool.and_eq_true] at hs
      exact ⟨a, b, dataOf_dp S r1 h1, dataOf_dp S r2 h2, hs.1, hs.2, post_here (a := D.bl _) S rfl q⟩
    · exact q.elim
  · exact q.elim
theorem nonV {K : PySem.W.Frag} {μ : List Addr} {H : Hp} {d : D} {v : V} (r : Rep K μ H d v) : d.isNon = decide (v = .non) := by
  cases d with
  | tup l => obtain ⟨a, xs, rfl, _⟩ := r; rfl
  | tmp l => obtain ⟨a, xs, rfl, _⟩ := r; rfl
  | lst l => obtain ⟨a, xs, rfl, _⟩ := r; rfl
  | dic l k => obtain ⟨a, xs, o, rfl, _⟩ := r; rfl
  | cell n => obtain ⟨a, _, rfl⟩ := r; rfl
  | lam f c q ds vs => obtain ⟨rfl, _⟩ := r; rfl
  | scr ns => obtain ⟨a, rfl, _⟩ := r; rfl
  | _ => cases r; rfl
theorem isND_ok : OpD X T isND (fun x y H Q => y = .non ∧ Q (.bl (decide (x = .non))) H) := by
  intro W σ μ H m d1 d2 x y Q S r1 r2 q
  unfold isND at q
  split at q
  · cases r2
    rw [nonV r1] at q
    exact ⟨rfl, post_here (a := D.bl _) S rfl q⟩
  · exact q.elim
theorem notND_ok : OpD X T notND (fun x y H Q => y = .non ∧ Q (.bl (!decide (x = .non))) H) := by
  intro W σ μ H m d1 d2 x y Q S r1 r2 q
  unfold notND at q
  split at q
  · cases r2
    rw [nonV r1] at q
    exact ⟨rfl, post_here (a := D.bl _) S rfl q⟩
  · exact q.elim
end
end DL


/-! DLg: subscripts, slices, dicts, stores, built-in functions and methods on trees of data. -/
namespace DL
open PySem PySem.Spec L2
open PyProof.Rows hiding St

/-! ### dicts as two lists -/
def lookD : List Key → List D → Key → Option D
  | k' :: ks, v :: vs, k => if k' = k then some v else lookD ks vs k
  | _, _, _ => none
def putVs : List Key → List D → Key → D → List D
  | k' :: ks, v' :: vs, k, v => (if k' = k then v else v') :: putVs ks vs k v
  | _, vs, _, _ => vs
def hasK (ks : List Key) (k : Key) : Bool := ks.any fun k' => decide (k' = k)
def putD (ks : List Key) (vs : List D) (k : Key) (v : D) : List Key × List D := if hasK ks k then (ks, putVs ks vs k v) else (ks ++ [k], vs ++ [v])
def dropKs : List Key → List D → Key → List Key × List D
  | k' :: ks, v :: vs, k => if k' = k then dropKs ks vs k else (k' :: (dropKs ks vs k).1, v :: (dropKs ks vs k).2)
  | _, _, _ => ([], [])
section
variable {K : PySem.W.Frag} {μ : List Addr} {H : Hp}
theorem lookD_rep : ∀ {ks : List Key} {vs : List D} {xs : List V} {k : Key}, RepL K μ H vs xs → ks.length = vs.length →
    (∀ d, lookD ks vs k = some d → ∃ v, valV (ks.zip xs) k = some v ∧ Rep K μ H d v) ∧ (lookD ks vs k = none → valV (ks.zip xs) k = none)
  | [], vs, xs, k, _, _ => ⟨fun _ e => by simp [lookD] at e, fun _ => rfl⟩
  | k' :: ks, [], _, _, _, e => by cases e
  | k' :: ks, v :: vs, _, k, r, e => by
    obtain ⟨x, xs, rfl, r1, r2⟩ := r
    have ih := lookD_rep (ks := ks) (k := k) r2 (Nat.succ.inj e)
    unfold lookD
    by_cases h : k' = k
    · rw [if_pos h]
      refine ⟨fun d hd => ?_, fun z => nomatch z⟩
      cases hd
      exact ⟨x, by rw [List.zip_cons_cons, valV_pos (p := (k', x)) h], r1⟩
    · rw [if_neg h]
      rw [List.zip_cons_cons, valV_neg (p := (k', x)) h]
      exact ih
theorem zip_any {k : Key} : ∀ {ks : List Key} {xs : List V}, ks.length = xs.length → ((ks.zip xs).any fun kv => decide (kv.1 = k)) = hasK ks k
  | [], [], _ => rfl
  | [], _ :: _, e => by cases e
  | _ :: _, [], e => by cases e
  | k' :: ks, x :: xs, e => by
    rw [List.zip_cons_cons, List.any_cons, zip_any (Nat.succ.inj e)]
    rfl
theorem putVs_rep : ∀ {ks : List Key} {vs : List D} {xs : List V} {k : Key} {d : D} {v : V}, RepL K μ H vs xs → ks.length = vs.length → Rep K μ H d v →
    ∃ ys, (ks.zip xs).map (fun kv => if kv.1 = k then (kv.1, v) else kv) = ks.zip ys ∧ RepL K μ H (putVs ks vs k d) ys ∧ (putVs ks vs k d).length = vs.length
  | [], vs, xs, k, d, v, r, e, _ => by
    have : vs = [] := by simpa using e.symm
    subst this
    cases r
    exact ⟨[], rfl, rfl, rfl⟩
  | k' :: ks, [], _, _, _, _, _, e, _ => by cases e
  | k' :: ks, v' :: vs, _, k, d, v, r, e, rv => by
    obtain ⟨x, xs, rfl, r1, r2⟩ := r
    obtain ⟨ys, h1, h2, h3⟩ := putVs_rep (ks := ks) (k := k) r2 (Nat.succ.inj e) rv
    by_cases h : k' = k
    · refine ⟨v :: ys, ?_, ?_, ?_⟩
      · rw [List.zip_cons_cons, List.map_cons, if_pos h, h1, List.zip_cons_cons]
      · unfold putVs
        rw [if_pos h]
        exact .cons rv h2
      · unfold putVs
        rw [List.length_cons, h3, List.length_cons]
    · refine ⟨x :: ys, ?_, ?_, ?_⟩
      · rw [List.zip_cons_cons, List.map_cons, if_neg h, h1, List.zip_cons_cons]
      · unfold putVs
        rw [if_neg h]
        exact .cons r1 h2
      · unfold putVs
        rw [List.length_cons, h3, List.length_cons]
theorem putD_rep {ks : List Key} {vs : List D} {xs : List V} {k : Key} {d : D} {v : V} (r : RepL K μ H vs xs) (e : ks.length = vs.length) (rv : Rep K μ H d v) :
    ∃ ys, putK (ks.zip xs) k v = (putD ks vs k d).1.zip ys ∧ RepL K μ H (putD ks vs k d).2 ys ∧ (putD ks vs k d).1.length = (putD ks vs k d).2.length := by
  have hl : ks.length = xs.length := by rw [e, r.length]
  unfold putK putD
  rw [zip_any hl]
  by_cases h : hasK ks k = true
  · rw [if_pos h, if_pos h]
    obtain ⟨ys, h1, h2, h3⟩ := putVs_rep r e rv
    exact ⟨ys, h1, h2, by rw [h3, e]⟩
  · rw [if_neg h, if_neg h]
    refine ⟨xs ++ [v], ?_, r.append (.cons rv .nil), by simp [e]⟩
    rw [List.zip_append hl]
    rfl
theorem dropKs_rep : ∀ {ks : List Key} {vs : List D} {xs : List V} {k : Key}, RepL K μ H vs xs → ks.length = vs.length →
    ∃ ys, dropK (ks.zip xs) k = (dropKs ks vs k).1.zip ys ∧ RepL K μ H (dropKs ks vs k).2 ys ∧ (dropKs ks vs k).1.length = (dropKs ks vs k).2.length
  | [], vs, xs, k, r, e => ⟨[], rfl, rfl, rfl⟩
  | k' :: ks, [], _, _, _, e => by cases e
  | k' :: ks, v' :: vs, _, k, r, e => by
    obtain ⟨x, xs, rfl, r1, r2⟩ := r
    obtain ⟨ys, h1, h2, h3⟩ := dropKs_rep (ks := ks) (k := k) r2 (Nat.succ.inj e)
    unfold dropKs
    by_cases h : k' = k
    · rw [if_pos h]
      refine ⟨ys, ?_, h2, h3⟩
      rw [← h1, List.zip_cons_cons]
      unfold dropK
      rw [List.filter_cons, if_neg (by simp [h])]
    · rw [if_neg h]
      refine ⟨x :: ys, ?_, .cons r1 h2, by simp [h3]⟩
      show dropK (((k', x)) :: ks.zip xs) k = (k', x) :: ((dropKs ks vs k).1.zip ys)
      rw [← h1]
      unfold dropK
      rw [List.filter_cons, if_pos (by simp [h])]
end
def keyOf : D → Option Key
  | .int i => some (.inl i)
  | .str x => some (.inr x)
  | _ => none
theorem keyOf_rep {K : PySem.W.Frag} {μ : List Addr} {H : Hp} {d : D} {v : V} {k : Key} (r : Rep K μ H d v) (e : keyOf d = some k) : v = kV k := by
  cases d <;> first | (cases e; cases r; rfl) | cases e
def dicOf (m : List C) : D → Option (List Key × List D)
  | .dic ks vs => some (ks, vs)
  | .cell n => match m[n]? with
    | some (.dic ks vs) => some (ks, vs)
    | _ => none
  | _ => none
section
variable {T : List (Addr × Str)} {K : PySem.W.Frag} {μ : List Addr} {H : Hp} {m : List C} {W : WX} {σ : L2.St}
theorem dicOf_rep (S : Sto T K μ H m) {d : D} {v : V} {ks : List Key} {vs : List D} (r : Rep K μ H d v) (e : dicOf m d = some (ks, vs)) : ∃ a xs, v = .ref a ∧ Rd H a (.dK (ks.zip xs)) ∧ ks.length = vs.length ∧ RepL K μ H vs xs := by
  cases d with
  | dic l k =>
    cases e
    obtain ⟨a, xs, o, rfl, f, hl, q⟩ := r
    exact ⟨a, xs, rfl, .inr ⟨o, f⟩, hl, q⟩
  | cell n =>
    obtain ⟨a, ea, rfl⟩ := r
    unfold dicOf at e
    cases hm : m[n]? with
    | none => simp [hm] at e
    | some c =>
      cases c with
      | dic l k =>
        simp only [hm, Option.some.injEq, Prod.mk.injEq] at e
        obtain ⟨rfl, rfl⟩ := e
        obtain ⟨xs, ex, hl, q⟩ := S.rep n _ a hm ea
        exact ⟨a, xs, rfl, .inl ex, hl, q⟩
      | _ => simp [hm] at e
  | _ => cases e
end

/-! ### subscripts -/
def ixD : D → D → List C → R D := fun d k m => match d, k with
  | .str x, .int i => if fits x.length then (match atI x.cps.toList i with
    | some c => .ok (.str ⟨#[c]⟩) m
    | none => .no) else .no
  | d, k => match seqOf m d, k with
    | some l, .int i => (match atI l i with
      | some v => .ok v m
      | none => .no)
    | _, _ => match dicOf m d, keyOf k with
      | some (ks, vs), some k => (match lookD ks vs k with
        | some v => .ok v m
        | none => .no)
      | _, _ => .no
def rIxA (K : PySem.W.Frag) : R2 := fun x y H Q => rIx K x y H Q ∨ ∃ a v, x = .ref a ∧ DGet H a y (some v) ∧ Q v H
section
variable {X : Cx} {T : List (Addr × Str)}
theorem ix_dict (hu : X.A.units + 1 < cLine) : IxR X (fun x y H Q => ∃ a v, x = .ref a ∧ DGet H a y (some v) ∧ Q v H) := by
  intro value slice pins s σ H x y v u Q I rx ry h hs
  obtain ⟨a, z, rfl, g, q⟩ := h
  cases rx
  exact tail_any (dict_typeIs I g) PySem.F.slot_dict_getitem.lookup (d_getItem hu I g ry fun w' s3 I3 rw' => ⟨z, H, I3, rw', q⟩) hs
theorem ix_A (hu : X.A.units + 1 < cLine) : IxR X (rIxA X.K) := ix_seq.or (ix_dict hu)
theorem atI_rep {K : PySem.W.Frag} {μ : List Addr} {H : Hp} {l : List D} {xs : List V} {i : Int} {d : D} (r : RepL K μ H l xs) (e : atI l i = some d) : ∃ v, atI xs i = some v ∧ Rep K μ H d v := by
  unfold atI at e ⊢
  rw [← r.length]
  cases h : ixN l.length i with
  | none => rw [h] at e; cases e
  | some j =>
    rw [h] at e
    exact r.get e
theorem ixD_ok : OpD X T ixD (rIxA X.K) := by
  intro W σ μ H m d1 d2 x y Q S r1 r2 q
  unfold ixD at q
  split at q
  · cases r1; cases r2
    split at q
    · rename_i hf
      split at q
      · rename_i c hc
        exact .inl (.inr (.inr ⟨_, _, c, rfl, rfl, fits_iff.mp hf, hc, post_here (a := D.str _) S rfl q⟩))
      · exact q.elim
    · exact q.elim
  · split at q
    · rename_i i hl hneg
      cases r2
      obtain ⟨a, xs, rfl, hs, rl⟩ := seqOf_rep S r1 hl
      split at q
      · rename_i v hv
        obtain ⟨z, hz, rz⟩ := atI_rep rl hv
        rcases hs with hs | hs
        · exact .inl (.inl ⟨a, xs, _, z, rfl, rfl, hs, hz, post_here S rz q⟩)
        · exact .inl (.inr (.inl ⟨a, xs, _, z, rfl, rfl, hs, hz, post_here S rz q⟩))
      · exact q.elim
    · split at q
      · rename_i ks vs k hd hk
        obtain ⟨a, xs, rfl, rd, hl, rl⟩ := dicOf_rep S r1 hd
        have ek := keyOf_rep r2 hk
        subst ek
        split at q
        · rename_i v hv
          obtain ⟨z, hz, rz⟩ := (lookD_rep rl hl).1 v hv
          exact .inr ⟨a, z, rfl, .inl ⟨_, _, rd, rfl, hz.symm⟩, post_here S rz q⟩
        · exact q.elim
      · exact q.elim
end

/-! ### slices -/
def cutD (l : List D) (lo hi : Option Int) : List D := (l.drop (HT.sIx l.length 0 lo)).take (HT.sIx l.length l.length hi - HT.sIx l.length 0 lo)
abbrev PSem := Env → List C → R (Option Int)
def pNone : PSem := fun _ m => .ok none m
def pSome (F : ES) : PSem := fun ρ m => (F ρ m).bind fun d m1 => match d with
  | .int i => .ok (some i) m1
  | _ => .no
/-- a slice of a value: of a list a new list, not written later -/
def slD (m : List C) (d : D) (lo hi : Option Int) : R D := match d with
  | .str x => if fits x.length then .ok (.str (cutS x lo hi)) m else .no
  | .tup l => .ok (.tup (cutD l lo hi)) m
  | .scr ns => .ok (.lst (cutD (ns.map D.int) lo hi)) m
  | d => match lstOf m d with
    | some l => .ok (.lst (cutD l lo hi)) m
    | none => .no
def eSl (F : ES) (A B : PSem) : ES := fun ρ m => (F ρ m).bind fun d m1 => (A ρ m1).bind fun lo m2 => (B ρ m2).bind fun hi m3 => slD m3 d lo hi
section
variable {X : Cx} {T : List (Addr × Str)} {W : WX}
structure DP (X : Cx) (T : List (Addr × Str)) (W : WX) (e : Option Expr) (F : PSem) : Prop where
  run : PO X e (tG (fun _ _ a b => b = a) T X.K W F)
theorem dp_none : DP X T W none pNone := ⟨⟨fun pins s σ H Q I ⟨μ, ρ, m, e, st, q⟩ => po_none.run pins s σ H Q I (post_here (rp := fun _ _ a b => b = a) (a := (none : Option Int)) st rfl q)⟩⟩
theorem dp_some {e : Expr} {F : ES} (h : DE X T W e F) : DP X T W (some e) (pSome F) := ⟨⟨fun pins s σ H Q I ⟨μ, ρ, m, er, st, q⟩ => (po_some h.run).run pins s σ H Q I (tG_mk er st (q.bind fun d m1 μ1 H1 v x1 s1 r1 q1 => by
  split at q1
  · cases r1
    exact ⟨_, rfl, post_here (rp := fun _ _ a b => b = a) s1 rfl q1⟩
  · exact q1.elim))⟩⟩
theorem cutD_rep {K : PySem.W.Frag} {μ : List Addr} {H : Hp} {l : List D} {xs : List V} {lo hi : Option Int} (r : RepL K μ H l xs) : RepL K μ H (cutD l lo hi) (cutV xs lo hi) := by
  unfold cutD cutV
  rw [r.length]
  exact (r.drop _).take _
def rSlF (K : PySem.W.Frag) : V → Option Int → Option Int → Hp → VK → Prop := fun x lo hi H Q => ∃ a xs, x = .ref a ∧ SqT K H a xs ∧
  (HT.sIx xs.length 0 lo = 0 ∧ HT.sIx xs.length xs.length hi = xs.length → Q (.ref a) H) ∧ (¬ (HT.sIx xs.length 0 lo = 0 ∧ HT.sIx xs.length xs.length hi = xs.length) → ∀ p o, o.dict = none → H p = none → Q (.ref p) (upd H p (.frz o (.tup (cutV xs lo hi)))))
theorem sl_tupF : SlR X (rSlF X.K) := by
  intro pins s σ H x v vl vu lo hi sl Q I rx hs pl pu h
  obtain ⟨a, xs, rfl, hx, q1, q2⟩ := h
  cases rx
  obtain ⟨its, r, ht, hz⟩ := I.tuple hx
  have hlen : its.toArray.size = xs.length := by rw [List.size_toArray]; exact r.length.symm
  refine ⟨"tuple", _, PyProof.Rows.slot_tuple_getitem.lookup, ht.typeIs, ?_⟩
  by_cases hw : HT.sIx xs.length 0 lo = 0 ∧ HT.sIx xs.length xs.length hi = xs.length
  · exact getItem_tuple_whole ht hs pl pu (by rw [hlen]; exact hw) ⟨.ref a, H, I, rfl, q1 hw⟩
  · refine HT.getItem_tuple_cut ht hs pl pu (by rw [hlen]; exact hw) ?_ (by rw [hlen]; exact hz)
    rw [hlen]
    exact ⟨.ref s.heap.objs.size, _, I.laidT (tk := s.toks) (Nat.le_trans (cutV_length xs lo hi) hz) ((r.drop (HT.sIx xs.length 0 lo)).take (HT.sIx xs.length xs.length hi - HT.sIx xs.length 0 lo)), rfl, q2 hw _ _ rfl (I.hok.fresh (Nat.le_refl _))⟩
def rSlAll (K : PySem.W.Frag) : V → Option Int → Option Int → Hp → VK → Prop := fun x lo hi H Q => rSlS x lo hi H Q ∨ rSlF K x lo hi H Q ∨ rSlL K x lo hi H (FQ Q)
theorem sl_all : SlR X (rSlAll X.K) := sl_str.or (sl_tupF.or sl_list.frz)
theorem slD_ok {σ : L2.St} {μ : List Addr} {H : Hp} {m : List C} {d : D} {x : V} {lo hi : Option Int} {Q : VK} (S : Sto T X.K μ H m) (r : Rep X.K μ H d x) (q : Post (Rep X.K) T X.K W σ μ H (slD m d lo hi) Q) : rSlAll X.K x lo hi H Q := by
  unfold slD at q
  split at q
  · cases r
    split at q
    · rename_i hf
      exact .inl ⟨_, rfl, fits_iff.mp hf, post_here (a := D.str _) S rfl q⟩
    · exact q.elim
  · rename_i l
    obtain ⟨a, xs, rfl, hs, rl⟩ := r
    refine .inr (.inl ⟨a, xs, rfl, hs.sqt, fun hw => ?_, fun _ => post_newT S (cutD_rep rl) q⟩)
    refine post_here (a := D.tup _) S ⟨a, xs, rfl, hs, ?_⟩ q
    unfold cutD
    rw [rl.length, hw.1, hw.2, List.drop_zero, Nat.sub_zero, List.take_of_length_le (by rw [rl.length]; exact Nat.le_refl _)]
    exact rl
  · rename_i ns
    obtain ⟨a, rfl, hk⟩ := r
    have rl : RepL X.K μ H (ns.map D.int) (ns.map V.int) := by
      clear q hk
      induction ns with
      | nil => rfl
      | cons k l ih => exact ⟨_, _, rfl, rfl, ih⟩
    exact .inr (.inr ⟨a, _, rfl, .inr hk, post_newL S (cutD_rep rl) q⟩)
  · split at q
    · rename_i l hl
      obtain ⟨a, xs, rfl, hs, rl⟩ := lstOf_rep S r hl
      exact .inr (.inr ⟨a, xs, rfl, hs, post_newL S (cutD_rep rl) q⟩)
    · exact q.elim
theorem de_slice {e : Expr} {lo hi : Option Expr} {F : ES} {A B : PSem} {p2 pos : Pos} (he : DE X T W e F) (hl : DP X T W lo A) (hu : DP X T W hi B) : DE X T W (.Subscript e (.Slice lo hi none p2) pos) (eSl F A B) :=
  ⟨(pe_slice sl_all he.run hl.run hu.run).weak fun σ H Q ⟨μ, ρ, m, er, s, q⟩ => tG_mk er s (q.bind fun d m1 μ1 H1 x x1 s1 r1 q1 => tG_mk (er.ext x1) s1 (q1.bind fun lo m2 μ2 H2 l2 x2 s2 r2 q2 => tG_mk ((er.ext x1).ext x2) s2 (q2.bind fun hi m3 μ3 H3 l3 x3 s3 r3 q3 => by
    subst r2 r3
    exact slD_ok s3 ((r1.ext x2).ext x3) q3)))⟩
end

/-! ### the type's name -/
def tagOf (m : List C) : D → Option String
  | .non => some "NoneType"
  | .bl _ => some "bool"
  | .int _ => some "int"
  | .str _ => some "str"
  | .tup _ => some "tuple"
  | .lst _ => some "list"
  | .dic _ _ => some "dict"
  | .cell n => match m[n]? with
    | some (.lst _) => some "list"
    | some (.dic _ _) => some "dict"
    | _ => none
  | _ => none
section
variable {T : List (Addr × Str)} {K : PySem.W.Frag} {μ : List Addr} {H : Hp} {m : List C}
theorem tagOf_rep (S : Sto T K μ H m) {d : D} {v : V} {t : String} (r : Rep K μ H d v) (e : tagOf m d = some t) : TyX K H v (.type t) := by
  cases d with
  | non => cases r; cases e; exact .base .non
  | bl b => cases r; cases e; exact .base (.bl b)
  | int b => cases r; cases e; exact .base (.int b)
  | str b => cases r; cases e; exact .base (.str b)
  | tup l =>
    cases e
    obtain ⟨a, xs, rfl, hs, _⟩ := r
    rcases hs with ⟨o, h, _⟩ | ⟨o, its, n, hk, hc, _⟩
    · exact .fTuple h
    · exact .kTuple hk hc
  | lst l =>
    cases e
    obtain ⟨a, xs, rfl, ⟨o, h⟩, _⟩ := r
    exact .base (.frz h)
  | dic l k =>
    cases e
    obtain ⟨a, xs, o, rfl, h, _⟩ := r
    exact .fDict h
  | cell n =>
    obtain ⟨a, ea, rfl⟩ := r
    unfold tagOf at e
    cases hm : m[n]? with
    | none => simp [hm] at e
    | some c =>
      cases c with
      | lst l =>
        simp only [hm, Option.some.injEq] at e
        subst e
        obtain ⟨xs, ex, _⟩ := S.rep n _ a hm ea
        exact .base (.lst ex)
      | dic l k =>
        simp only [hm, Option.some.injEq] at e
        subst e
        obtain ⟨xs, ex, _⟩ := S.rep n _ a hm ea
        exact .base (.dK ex)
      | _ => simp [hm] at e
  | _ => cases e
end
/-- isinstance by names -/
def isTab (t n : String) : Bool := t == n || (t == "bool" && n == "int")
def isNames : List String := ["NoneType", "bool", "int", "str", "tuple", "list", "dict"]
theorem isTab_ok : ∀ t ∈ isNames, ∀ n ∈ isNames.tail, kitB t n = some (isTab t n) := by decide +kernel
def isOk (t n : String) : Bool := isNames.contains t && isNames.tail.contains n
theorem isOk_of {t n : String} (h : isOk t n = true) : kitB t n = some (isTab t n) := by
  unfold isOk at h
  rw [Bool.and_eq_true] at h
  exact isTab_ok t (by simpa using h.1) n (by simpa using h.2)
def tyNames : List D → Option (List String)
  | [] => some []
  | .ty n :: l => (tyNames l).map fun ns => n :: ns
  | _ => none
def isiD : FS := fun ds m => match ds with
  | [x, .ty n] => (match tagOf m x with
    | some t => if isOk t n then .ok (.bl (isTab t n)) m else .no
    | none => .no)
  | [x, .tup l] => (match tagOf m x, tyNames l with
    | some t, some ns => if ns.all (isOk t) then .ok (.bl (ns.any (isTab t))) m else .no
    | _, _ => .no)
  | _ => .no
def rIsiR (K : PySem.W.Frag) : List V → Hp → VK → Prop := fun xs H Q => ∃ (x : V) (tp : Addr) (cs : List V) (t : Value) (us : List Value) (b : Bool), xs = [x, .ref tp] ∧ Rd H tp (.tup cs) ∧ Paired ClsV cs us ∧ TyX K H x t ∧ PySem.W.kitAny K t us = some b ∧ Q (.bl b) H
def rIsiA (K : PySem.W.Frag) : List V → Hp → VK → Prop := fun xs H Q => rIsi K xs H Q ∨ rIsiR K xs H Q ∨ rIsiK K xs H Q
section
variable {X : Cx} {T : List (Addr × Str)}
theorem call_isiR : CallR X (.builtin "isinstance") (rIsiR X.K) := by
  intro pins s σ H xs us Q I r h
  obtain ⟨x, tp, cs, t, ws, b, rfl, hT, k, ty, e, q⟩ := h
  obtain ⟨u1, u2, rfl, r1, r2⟩ := vals2 r
  cases (show u2 = Value.ref tp from r2)
  obtain ⟨P, Z, p, hx⟩ := kit_of I r1 ty
  obtain ⟨_, its, rv, o, h1, h2, n, h3⟩ := (show ObjOk X.prog X.w H s.heap tp (.tup cs) from hT.ok I.hok)
  have e3 := ClsV.all k rv
  subst e3
  obtain ⟨oc, od, dt, sl⟩ := o
  simp only at h2 h3
  subst h2 h3
  exact PySem.W.kia_tup Z I.kIn p h1 e hx fun tk => ⟨.bl b, H, I.tok tk, rfl, q⟩
theorem call_isiA : CallR X (.builtin "isinstance") (rIsiA X.K) := call_isi.or (call_isiR.or call_isiK)
theorem tyNames_rep {K : PySem.W.Frag} {μ : List Addr} {H : Hp} : ∀ {l : List D} {ns : List String} {xs : List V}, RepL K μ H l xs → tyNames l = some ns → xs = ns.map V.ty
  | [], _, _, r, e => by cases e; cases r; rfl
  | .ty n :: l, _, _, r, e => by
    obtain ⟨x, xs, rfl, r1, r2⟩ := r
    cases r1
    unfold tyNames at e
    cases h : tyNames l with
    | none => rw [h] at e; cases e
    | some ns =>
      rw [h] at e
      cases e
      rw [tyNames_rep r2 h]
      rfl
  | .non :: _, _, _, _, e | .bl _ :: _, _, _, _, e | .int _ :: _, _, _, _, e | .str _ :: _, _, _, _, e | .tup _ :: _, _, _, _, e | .tmp _ :: _, _, _, _, e | .lst _ :: _, _, _, _, e | .dic _ _ :: _, _, _, _, e | .ref _ :: _, _, _, _, e | .cell _ :: _, _, _, _, e | .lam _ _ _ _ _ :: _, _, _, _, e | .scr _ :: _, _, _, _, e => by cases e
theorem kitAny_names {K : PySem.W.Frag} {t : String} : ∀ {ns : List String}, ns.all (isOk t) = true → PySem.W.kitAny K (.type t) (ns.map Value.type) = some (ns.any (isTab t))
  | [], _ => kitAny_nil
  | n :: ns, h => by
    rw [List.all_cons, Bool.and_eq_true] at h
    have ih := kitAny_names (K := K) h.2
    rw [List.map_cons, List.any_cons]
    refine kitAny_cons (kit_ty (isOk_of h.1)) (fun e => ?_) (fun e => by rw [e, Bool.true_or])
    rw [e, Bool.false_or]
    exact ih
theorem clsV_names : ∀ ns : List String, Paired ClsV (ns.map V.ty) (ns.map Value.type)
  | [] => .nil
  | n :: ns => .cons (.ty n) (clsV_names ns)
theorem isiD_ok : ArD X T isiD (rIsiA X.K) := by
  intro W σ μ H m ds xs Q S r q
  unfold isiD at q
  split at q
  · rename_i x n
    obtain ⟨v, u, rfl, r1, r2⟩ := repL2 r
    cases r2
    split at q
    · rename_i t ht
      split at q
      · rename_i ho
        exact .inl ⟨v, .ty n, .type t, .type n, _, rfl, .ty n, tagOf_rep S r1 ht, kit_ty (isOk_of ho), post_here (a := D.bl _) S rfl q⟩
      · exact q.elim
    · exact q.elim
  · rename_i x l
    obtain ⟨v, u, rfl, r1, a, ys, rfl, hs, rl⟩ := repL2 r
    split at q
    · rename_i t ns ht hn
      split at q
      · rename_i ho
        have ey := tyNames_rep rl hn
        subst ey
        rcases hs with ⟨o, h, _⟩ | ⟨o, its, n, hk, hc, _, hd, hz, rv⟩
        · exact .inr (.inl ⟨v, a, _, .type t, _, _, rfl, .inr ⟨o, h⟩, clsV_names ns, tagOf_rep S r1 ht, kitAny_names ho, post_here (a := D.bl _) S rfl q⟩)
        · have ei : its.toList = ns.map Value.type := ClsV.all (clsV_names ns) rv
          obtain ⟨oc, od, dt, sl⟩ := o
          simp only at hc hd
          subst hc hd
          have e2 : its = (ns.map Value.type).toArray := by rw [← ei]
          subst e2
          exact .inr (.inr ⟨v, a, od, _, n, sl, .type t, _, rfl, hk, tagOf_rep S r1 ht, kitAny_names ho, post_here (a := D.bl _) S rfl q⟩)
      · exact q.elim
    · exact q.elim
  · exact q.elim
end
end DL


/-! DLh: freezing cells, stores, methods, built-in functions. -/
namespace DL
open PySem PySem.Spec L2
open PyProof.Rows hiding St

/-! ### a cell that is not written any more -/
def frzR (d : D) (m : List C) : R D := match d with
  | .cell n => (match m[n]? with
    | some (.lst l) => .ok (.lst l) (m.set n .dead)
    | some (.dic ks vs) => .ok (.dic ks vs) (m.set n .dead)
    | _ => .no)
  | d => .ok d m
def eFrz (F : ES) : ES := fun ρ m => (F ρ m).bind frzR
section
variable {X : Cx} {T : List (Addr × Str)} {W : WX}
theorem frzR_ok {σ : L2.St} {μ : List Addr} {H : Hp} {m : List C} {d : D} {x : V} {Q : VK} (S : Sto T X.K μ H m) (r : Rep X.K μ H d x) (q : Post (Rep X.K) T X.K W σ μ H (frzR d m) Q) : FQ Q x H := by
  unfold frzR at q
  split at q
  · rename_i n
    obtain ⟨a, ea, rfl⟩ := r
    split at q
    · rename_i l hm
      obtain ⟨xs, ex, rl⟩ := S.rep n _ a hm ea
      refine .inr ⟨a, _, rfl, ex, trivial, fun od => ?_⟩
      have hc : Celled (H a) := by rw [ex]; trivial
      have x1 : Ext μ H μ (upd H a (.frz od (.lst xs))) := .mut (List.mem_of_getElem? ea) hc
      exact q μ _ _ x1 (S.set ea hc ⟨_, upd_same, fun _ z => by cases z⟩) ⟨a, xs, rfl, ⟨od, upd_same⟩, rl.ext x1⟩
    · rename_i ks vs hm
      obtain ⟨xs, ex, hl, rl⟩ := S.rep n _ a hm ea
      refine .inr ⟨a, _, rfl, ex, trivial, fun od => ?_⟩
      have hc : Celled (H a) := by rw [ex]; trivial
      have x1 : Ext μ H μ (upd H a (.frz od (.dK (ks.zip xs)))) := .mut (List.mem_of_getElem? ea) hc
      exact q μ _ _ x1 (S.set ea hc ⟨_, upd_same, fun _ z => by cases z⟩) ⟨a, xs, od, rfl, upd_same, hl, rl.ext x1⟩
    · exact q.elim
  · exact .inl (post_here S r q)
theorem de_frz {e : Expr} {F : ES} (h : DE X T W e F) : DE X T W e (eFrz F) := ⟨(pe_frz h.run).weak fun σ H Q ⟨μ, ρ, m, er, s, q⟩ => tG_mk er s (q.bind fun d m1 μ1 H1 x x1 s1 r1 q1 => frzR_ok s1 r1 q1)⟩
end

/-! ### stores -/
/-- o[i] = v -/
def setD (o i v : D) (m : List C) : Option (List C) := match o with
  | .cell n => (match m[n]?, i with
    | some (.lst l), .int k => (ixN l.length k).map fun j => m.set n (.lst (l.set j v))
    | some (.dic ks vs), i => (match keyOf i with
      | some k => if fits (ks.length + 1) then some (m.set n (.dic (putD ks vs k v).1 (putD ks vs k v).2)) else none
      | none => none)
    | _, _ => none)
  | _ => none
def RS.optM (o : Option (List C)) (k : List C → RS) : RS := match o with
  | some m => k m
  | none => .no
@[simp] theorem RS.optM_some (m : List C) (k : List C → RS) : RS.optM (some m) k = k m := rfl
@[simp] theorem RS.optM_none (k : List C → RS) : RS.optM none k = .no := rfl
/-- o[i] = v as a statement: first the value -/
def sSub (Fo Fi Fv : ES) : SS := fun ρ m => (Fv ρ m).go ρ fun v m1 => (Fo ρ m1).go ρ fun o m2 => (Fi ρ m2).go ρ fun i m3 => RS.optM (setD o i v m3) fun m4 => .nx ρ m4
def rSetA : TSet := fun o i v H Q => rSetL o i v H Q ∨ ∃ a H', o = .ref a ∧ DPut H a i v H' ∧ Q H'
section
variable {X : Cx} {T : List (Addr × Str)} {W : WX}
theorem set_A (hu : X.A.units + 1 < cLine) : PSet X rSetA := by
  intro pins s σ H o i v ov iv u Q I ro ri rv h
  rcases h with h | ⟨a, H', rfl, g, q⟩
  · exact set_list pins s σ H o i v ov iv u Q I ro ri rv h
  · cases ro
    exact d_setItem hu I g ri rv fun s' I' => ⟨H', I', q⟩
/-- a cell with new contents -/
theorem Post.cellL {K : PySem.W.Frag} {μ : List Addr} {H : Hp} {m : List C} {n : Nat} {a : Addr} {l : List D} {xs : List V} (S : Sto T K μ H m) (ea : μ[n]? = some a) (hc : Celled (H a)) (r : RepL K μ H l xs) :
    Ext μ H μ (upd H a (.lst xs)) ∧ Sto T K μ (upd H a (.lst xs)) (m.set n (.lst l)) := by
  have x1 : Ext μ H μ (upd H a (.lst xs)) := .mut (List.mem_of_getElem? ea) hc
  exact ⟨x1, S.set ea hc ⟨xs, upd_same, r.ext x1⟩⟩
theorem Post.cellD {K : PySem.W.Frag} {μ : List Addr} {H : Hp} {m : List C} {n : Nat} {a : Addr} {ks : List Key} {l : List D} {xs : List V} (S : Sto T K μ H m) (ea : μ[n]? = some a) (hc : Celled (H a)) (hl : ks.length = l.length) (r : RepL K μ H l xs) :
    Ext μ H μ (upd H a (.dK (ks.zip xs))) ∧ Sto T K μ (upd H a (.dK (ks.zip xs))) (m.set n (.dic ks l)) := by
  have x1 : Ext μ H μ (upd H a (.dK (ks.zip xs))) := .mut (List.mem_of_getElem? ea) hc
  exact ⟨x1, S.set ea hc ⟨xs, upd_same, hl, r.ext x1⟩⟩
theorem setD_ok {μ : List Addr} {H : Hp} {m m' : List C} {o i v : D} {x y z : V} {Q : Hp → Prop} (S : Sto T X.K μ H m) (ro : Rep X.K μ H o x) (ri : Rep X.K μ H i y) (rv : Rep X.K μ H v z) (e : setD o i v m = some m')
    (q : ∀ H', Ext μ H μ H' → Sto T X.K μ H' m' → Q H') : rSetA x y z H Q := by
  unfold setD at e
  split at e
  · rename_i n
    obtain ⟨a, ea, rfl⟩ := ro
    split at e
    · rename_i l k hm
      cases ri
      obtain ⟨xs, ex, rl⟩ := S.rep n _ a hm ea
      cases hj : ixN l.length k with
      | none => rw [hj] at e; cases e
      | some j =>
        rw [hj] at e
        cases e
        have hc : Celled (H a) := by rw [ex]; trivial
        obtain ⟨x1, s1⟩ := Post.cellL S ea hc (rl.set j rv)
        exact .inl ⟨a, xs, k, j, rfl, rfl, ex, by rw [← rl.length]; exact hj, q _ x1 s1⟩
    · rename_i ks vs hm
      obtain ⟨xs, ex, hl, rl⟩ := S.rep n _ a hm ea
      split at e
      · rename_i k hk
        split at e
        · rename_i hf
          cases e
          have ek := keyOf_rep ri hk
          subst ek
          obtain ⟨ys, e1, r1, l1⟩ := putD_rep rl hl rv
          have hc : Celled (H a) := by rw [ex]; trivial
          obtain ⟨x1, s1⟩ := Post.cellD S ea hc l1 r1
          refine .inr ⟨a, _, rfl, .inl ⟨_, k, ex, rfl, ?_, rfl⟩, ?_⟩
          · rw [List.length_zip, ← rl.length, ← hl, Nat.min_self]
            exact fits_iff.mp hf
          · rw [e1]
            exact q _ x1 s1
        · cases e
      · cases e
    · cases e
  · cases e
theorem ds_subS {o i value : Expr} {Fo Fi Fv : ES} {tpos pos : Pos} (hu : X.A.units + 1 < cLine) (ho : DE X T W o Fo) (hi : DE X T W i Fi) (hv : DE X T W value Fv) (hs : swapsWithSole [.Subscript o i tpos] value pos.line X.env = pure false := by rfl) (hw : swappedStores [.Subscript o i tpos] value X.env = pure none := by rfl)
    (hx : ∀ v, assign (.Subscript o i tpos) X.env v = (do
      let ov ← holding [v] (eval o X.env)
      let iv ← holding [v, ov] (eval i X.env)
      standAt tpos
      holding [v, ov, iv] (setItem ov iv v)
      release [v, ov, iv] []) := by intro _; rfl) : DS X T W (.Assign [.Subscript o i tpos] value pos) (sSub Fo Fi Fv) :=
  ⟨(ps_asg hv.run (pg_sub ho.run hi.run (set_A hu) hx) hs hw).weak fun Z σ H ⟨μ, ρ, m, er, s, q⟩ => tG_mk er s (q.go er fun v m1 μ1 H1 z x1 s1 r1 q1 => tG_mk (er.ext x1) s1 (q1.go (er.ext x1) fun o m2 μ2 H2 x x2 s2 r2 q2 => tG_mk ((er.ext x1).ext x2) s2 (q2.go ((er.ext x1).ext x2) fun i m3 μ3 H3 y x3 s3 r3 q3 => by
    cases e : setD o i v m3 with
    | none => rw [e] at q3; exact q3.elim
    | some m4 =>
      rw [e] at q3
      exact setD_ok s3 (r2.ext x3) r3 ((r1.ext x2).ext x3) e fun H' x4 s4 => (PostS.ext x4 q3).nx_here s4 ((((er.ext x1).ext x2).ext x3).ext x4))))⟩
/-- x op= e -/
def sAug (i : Nat) (f : D → D → List C → R D) (F : ES) : SS := fun ρ m => match ρ[i]? with
  | some (some d) => (F ρ m).go ρ fun e m1 => (f d e m1).go ρ fun z m2 => .nx (ρ.set i (some z)) m2
  | _ => .no
theorem ds_aug {i : Nat} {x : Str} {e : Expr} {F : ES} {op : Operator} {f : D → D → List C → R D} {r : R2} {pos' pos : Pos} (ho : OpR X (inplaceOp op) r) (hf : OpD X T f r) (hN : X.N.Nodup) (hi : X.N[i]? = some x) (hx : Loc X.env.scope x) (he : DE X T W e F)
    (hfn : X.fn x = true ∨ X.env.scope.names.lookup x = some .local := by first | exact .inl rfl | exact .inr rfl | assumption) : DS X T W (.AugAssign (.Name x pos') op e pos) (sAug i f F) :=
  ⟨(ps_aug hN hi hx he.run (ti := r) (fun pins s σ H x y v u Q I rx ry q => ho pins s σ H x y v u Q I rx ry q) hfn).weak fun Z σ H ⟨μ, ρ, m, er, s, q⟩ => by
    unfold sAug at q
    split at q
    · rename_i d hd
      obtain ⟨v, hv, rv⟩ := er.get i d hd
      exact ⟨v, hv, tG_mk er s (q.go er fun e m1 μ1 H1 y x1 s1 r1 q1 => hf W σ μ1 H1 m1 d e v y _ s1 (rv.ext x1) r1 (q1.go (er.ext x1) fun z m2 μ2 H2 w x2 s2 r2 q2 => q2.nx_here s2 (((er.ext x1).ext x2).set r2)))⟩
    · exact q.elim⟩
end

/-! ### methods of built-in types -/
def MtD (X : Cx) (T : List (Addr × Str)) (f : D → List D → List C → R D) (r : V → List V → Hp → VK → Prop) : Prop := ∀ (W : WX) (σ : L2.St) (μ : List Addr) (H : Hp) (m : List C) (d : D) (ds : List D) (x : V) (xs : List V) (Q : VK),
  Sto T X.K μ H m → Rep X.K μ H d x → RepL X.K μ H ds xs → Post (Rep X.K) T X.K W σ μ H (f d ds m) Q → r x xs H Q
/-- o.m(..), o of the type t -/
def eMt (t : String) (f : D → List D → List C → R D) (F : ES) (G : LS) : ES := fun ρ m => (F ρ m).bind fun d m1 => if tagOf m1 d = some t then (G ρ m1).bind fun ds m2 => f d ds m2 else .no
def TyM (K : PySem.W.Frag) (t : String) (x : V) (H : Hp) : Prop := tyV K t x H ∨ (t = "dict" ∧ ∃ a kvs, x = .ref a ∧ Rd H a (.dK kvs))
def mtTypes : List String := ["str", "int", "list", "dict"]
section
variable {X : Cx} {T : List (Addr × Str)} {W : WX}
theorem tyM_is {pins : List (Addr × Obj)} {σ : L2.St} {H : Hp} {s : Shared} {t : String} {x : V} {v : Value} (I : Inv X pins σ H s) (r : RelV x v) (ty : TyM X.K t x H) : s.TypeIs v t ∧ ∀ a, v = .ref a → ∃ ob, s.heap.get? a = some ob ∧ ob.dict = none := by
  rcases ty with h | ⟨rfl, a, kvs, rfl, h⟩
  · exact tyV_is I r h
  · cases r
    obtain ⟨h1, h2, _⟩ := isD_at I (.inl ⟨kvs, h⟩)
    exact ⟨h1, h2⟩
theorem tyM_of {K : PySem.W.Frag} {μ : List Addr} {H : Hp} {m : List C} {d : D} {v : V} {t : String} (S : Sto T K μ H m) (r : Rep K μ H d v) (e : tagOf m d = some t) (ht : t ∈ mtTypes) : TyM K t v H := by
  cases d with
  | int i => cases r; cases e; exact .inl rfl
  | str i => cases r; cases e; exact .inl rfl
  | lst l =>
    cases e
    obtain ⟨a, xs, rfl, h, _⟩ := r
    exact .inl (.inl ⟨rfl, xs, h.sql⟩)
  | dic ks vs =>
    cases e
    obtain ⟨a, xs, o, rfl, h, _⟩ := r
    exact .inr ⟨rfl, a, _, rfl, .inr ⟨o, h⟩⟩
  | cell n =>
    obtain ⟨a, ea, rfl⟩ := r
    unfold tagOf at e
    cases hm : m[n]? with
    | none => simp [hm] at e
    | some c =>
      cases c with
      | lst l =>
        simp only [hm, Option.some.injEq] at e
        subst e
        obtain ⟨xs, ex, _⟩ := S.rep n _ a hm ea
        exact .inl (.inl ⟨rfl, xs, SqL.of ex⟩)
      | dic l k =>
        simp only [hm, Option.some.injEq] at e
        subst e
        obtain ⟨xs, ex, _⟩ := S.rep n _ a hm ea
        exact .inr ⟨rfl, a, _, rfl, .inl ex⟩
      | _ => simp [hm] at e
  | non => cases e; simp [mtTypes] at ht
  | bl _ => cases e; simp [mtTypes] at ht
  | tup _ => cases e; simp [mtTypes] at ht
  | _ => cases e
variable {o e : Expr} {es : List Expr} {to : TE} {ta : TA} {name : Str} {apos cpos : Pos} {t id : String} {r : V → List V → Hp → VK → Prop} {F : ES} {G : LS} {f : D → List D → List C → R D}
def tMt (K : PySem.W.Frag) (t : String) (r : V → List V → Hp → VK → Prop) (to : TE) (ta : TA) : TE := fun σ H Q => to σ H fun x H1 => TyM K t x H1 ∧ ta σ H1 fun xs H2 => r x xs H2 Q
theorem pe_mt0 (pa : PlainAttrs t) (slot : Slot t name id) (hty : typeOf (.builtin id) = pure (.type "method_descriptor")) (hm : MtR X id r) (ho : PE X o to)
    (hbase : attributeBase o name X.env (eval o X.env) = eval o X.env := by rfl) (hline : (apos.endLine == cpos.line) = true := by rfl) : PE X (.Call (.Attribute o name apos) [] [] cpos) (tMt X.K t r to tNil) := by
  refine ⟨fun pins s σ H Q I h => ?_⟩
  refine wpAny_Call_method0_late hbase hline (thn (ho.run pins s σ H _ I h) fun v s1 ⟨x, H1, I1, r1, ty, q1⟩ => ?_)
  obtain ⟨h1, h2⟩ := tyM_is I1 r1 ty
  exact ⟨t, id, pa, slot, hty, h1, h2, Calls.callWith_builtin rfl (PySem.evalArgs_none (hm pins s1 σ H1 x [] v [] Q I1 r1 .nil q1))⟩
theorem pe_mt (pa : PlainAttrs t) (slot : Slot t name id) (hty : typeOf (.builtin id) = pure (.type "method_descriptor")) (hm : MtR X id r) (ho : PE X o to) (ha : PA X (e :: es) ta)
    (hbase : attributeBase o name X.env (eval o X.env) = eval o X.env := by rfl)
    (hfew : ((backTo cpos (starEach (e :: es) X.env)).all (fun x => !x.1) && (backToKw cpos (keywordEach [] X.env)).all (fun x => x.1.isSome)
      && decide ((e :: es).length + ([] : List Keyword).length + (if ([] : List Keyword).isEmpty then 0 else 1) < 30)) = true := by rfl)
    (hline : (apos.endLine == cpos.line) = true := by rfl) (hs : starEach (e :: es) X.env = (false, eval e X.env) :: starEach es X.env := by rfl) (hplain : (backTo cpos (starEach es X.env)).any (·.1) = false := by rfl) :
    PE X (.Call (.Attribute o name apos) (e :: es) [] cpos) (tMt X.K t r to ta) := by
  refine ⟨fun pins s σ H Q I h => ?_⟩
  refine wpAny_Call_method_late hbase hfew hline rfl (thn (ho.run pins s σ H _ I h) fun v s1 ⟨x, H1, I1, r1, ty, q1⟩ => ?_)
  obtain ⟨h1, h2⟩ := tyM_is I1 r1 ty
  refine ⟨t, id, pa, slot, hty, h1, h2, ?_⟩
  have hA := ha.run cpos pins s1 σ H1 _ I1 q1
  rw [hs] at hA ⊢
  refine Calls.callWith_builtin (by show (false || (backTo cpos (starEach es X.env)).any (·.1)) = false; rw [hplain] <;> rfl) (Calls.evalArgs_plain ?_)
  exact thn hA fun us s2 ⟨vs, H2, I2, r2, q2⟩ => hm pins s2 σ H2 x vs v us Q I2 r1 r2 q2
theorem tMt_D (ht : t ∈ mtTypes) (hf : MtD X T f r) (ho : DE X T W o F) (ha : ∀ σ H Q, tG (RepL X.K) T X.K W G σ H Q → ta σ H Q) : ∀ σ H Q, tG (Rep X.K) T X.K W (eMt t f F G) σ H Q → tMt X.K t r (tG (Rep X.K) T X.K W F) ta σ H Q :=
  fun σ H Q ⟨μ, ρ, m, er, s, q⟩ => tG_mk er s (q.bind fun d m1 μ1 H1 x x1 s1 r1 q1 => by
    split at q1
    · rename_i hg
      exact ⟨tyM_of s1 r1 hg ht, ha _ _ _ (tG_mk (er.ext x1) s1 (q1.bind fun ds m2 μ2 H2 xs x2 s2 r2 q2 => hf W σ μ2 H2 m2 d ds x xs Q s2 (r1.ext x2) r2 q2))⟩
    · exact q1.elim)
theorem de_mt0 (pa : PlainAttrs t) (slot : Slot t name id) (hty : typeOf (.builtin id) = pure (.type "method_descriptor")) (hm : MtR X id r) (hf : MtD X T f r) (ho : DE X T W o F) (ht : t ∈ mtTypes := by decide)
    (hbase : attributeBase o name X.env (eval o X.env) = eval o X.env := by rfl) (hline : (apos.endLine == cpos.line) = true := by rfl) : DE X T W (.Call (.Attribute o name apos) [] [] cpos) (eMt t f F aNil) :=
  ⟨(pe_mt0 pa slot hty hm ho.run hbase hline).weak (tMt_D ht hf ho fun σ H Q ⟨μ, ρ, m, er, s, q⟩ => post_here (rp := RepL X.K) (a := []) s rfl q)⟩
theorem de_mt (pa : PlainAttrs t) (slot : Slot t name id) (hty : typeOf (.builtin id) = pure (.type "method_descriptor")) (hm : MtR X id r) (hf : MtD X T f r) (ho : DE X T W o F) (ha : DA X T W (e :: es) G) (ht : t ∈ mtTypes := by decide)
    (hbase : attributeBase o name X.env (eval o X.env) = eval o X.env := by rfl)
    (hfew : ((backTo cpos (starEach (e :: es) X.env)).all (fun x => !x.1) && (backToKw cpos (keywordEach [] X.env)).all (fun x => x.1.isSome)
      && decide ((e :: es).length + ([] : List Keyword).length + (if ([] : List Keyword).isEmpty then 0 else 1) < 30)) = true := by rfl)
    (hline : (apos.endLine == cpos.line) = true := by rfl) (hs : starEach (e :: es) X.env = (false, eval e X.env) :: starEach es X.env := by rfl) (hplain : (backTo cpos (starEach es X.env)).any (·.1) = false := by rfl) :
    DE X T W (.Call (.Attribute o name apos) (e :: es) [] cpos) (eMt t f F G) := ⟨(pe_mt pa slot hty hm ho.run ha.run hbase hfew hline hs hplain).weak (tMt_D ht hf ho fun _ _ _ h => h)⟩
end

/-! ### the methods -/
/-- l.append(x) -/
def appendD : D → List D → List C → R D := fun d ds m => match d, ds with
  | .cell n, [x] => (match m[n]? with
    | some (.lst l) => if fits (l.length + 1) then .ok .non (m.set n (.lst (l ++ [x]))) else .no
    | _ => .no)
  | _, _ => .no
section
variable {X : Cx} {T : List (Addr × Str)} {W : WX}
theorem appendD_ok : MtD X T appendD rAppend := by
  intro W σ μ H m d ds x xs Q S r rs q
  unfold appendD at q
  split at q
  · rename_i n y
    obtain ⟨a, ea, rfl⟩ := r
    obtain ⟨z, rfl, rz⟩ := repL1 rs
    split at q
    · rename_i l hm
      split at q
      · rename_i hf
        obtain ⟨ys, ex, rl⟩ := S.rep n _ a hm ea
        have hc : Celled (H a) := by rw [ex]; trivial
        obtain ⟨x1, s1⟩ := Post.cellL S ea hc (rl.append (.cons rz .nil))
        refine ⟨a, ys, z, rfl, rfl, ex, ?_, q μ _ .non x1 s1 rfl⟩
        rw [← rl.length]
        exact fits_iff.mp hf
      · exact q.elim
    · exact q.elim
  · exact q.elim
end
/-! ### built-in functions -/
def lenD : FS := fun ds m => match ds with
  | [d] => (match d with
    | .str x => if fits x.length then .ok (.int x.length) m else .no
    | d => match seqOf m d with
      | some l => .ok (.int l.length) m
      | none => match dicOf m d with
        | some (ks, _) => .ok (.int ks.length) m
        | none => .no)
  | _ => .no
def rLenA (K : PySem.W.Frag) : List V → Hp → VK → Prop := fun xs H Q => (∃ p ys, xs = [.ref p] ∧ (SqL K H p ys ∨ SqT K H p ys) ∧ Q (.int ys.length) H) ∨ (∃ z, xs = [.str z] ∧ z.length ≤ sizeLine ∧ Q (.int z.length) H) ∨ ∃ a kvs, xs = [V.ref a] ∧ Rd H a (.dK kvs) ∧ Q (.int kvs.length) H
def absD : FS := fun ds m => match ds with
  | [.int i] => .ok (.int (if i < 0 then -i else i)) m
  | _ => .no
def intD : FS := fun ds m => match ds with
  | [.int i] => .ok (.int i) m
  | [.bl b] => .ok (.int (if b then 1 else 0)) m
  | _ => .no
def strOk (i : Int) : Bool := decide (i.natAbs.log2 < 1920)
def strD : FS := fun ds m => match ds with
  | [.int i] => if strOk i then .ok (.str (toString i)) m else .no
  | _ => .no
def max2D : FS := fun ds m => match ds with
  | [.int i, .int j] => .ok (.int (if j > i then j else i)) m
  | _ => .no
def min2D : FS := fun ds m => match ds with
  | [.int i, .int j] => .ok (.int (if j < i then j else i)) m
  | _ => .no
/-- tuple(l) -/
def tupleD : FS := fun ds m => match ds with
  | [d] => (match d with
    | .tup l => .ok (.tup l) m
    | d => match lstOf m d with
      | some l => .ok (.tup l) m
      | none => .no)
  | _ => .no
/-- list(l), not written later -/
def listD : FS := fun ds m => match ds with
  | [d] => (match seqOf m d with
    | some l => .ok (.lst l) m
    | none => .no)
  | _ => .no
def bools : List D → Option (List Bool)
  | [] => some []
  | .bl b :: l => (bools l).map fun bs => b :: bs
  | _ => none
def allD : FS := fun ds m => match ds with
  | [d] => (match (lstOf m d).bind bools with
    | some bs => .ok (.bl (bs.all id)) m
    | none => .no)
  | _ => .no
def anyD : FS := fun ds m => match ds with
  | [d] => (match (lstOf m d).bind bools with
    | some bs => .ok (.bl (bs.any id)) m
    | none => .no)
  | _ => .no
section
variable {X : Cx} {T : List (Addr × Str)}
theorem call_lenR : CallR X (.builtin "len") (fun xs H Q => ∃ a kvs, xs = [V.ref a] ∧ Rd H a (.dK kvs) ∧ Q (.int kvs.length) H) := by
  intro pins s σ H xs us Q I r h
  obtain ⟨a, kvs, rfl, ha, q⟩ := h
  obtain ⟨u, rfl, ru⟩ := vals1 r
  cases ru
  exact d_len I ha fun t s' I' => ⟨.int kvs.length, H, I', ⟨t, rfl⟩, q⟩
theorem call_lenA : CallR X (.builtin "len") (rLenA X.K) := call_len_seq.or (call_len_str.or call_lenR)
theorem lenD_ok : ArD X T lenD (rLenA X.K) := by
  intro W σ μ H m ds xs Q S r q
  unfold lenD at q
  split at q
  · obtain ⟨v, rfl, r1⟩ := repL1 r
    split at q
    · cases r1
      split at q
      · rename_i hf
        exact .inr (.inl ⟨_, rfl, fits_iff.mp hf, post_here (a := D.int _) S rfl q⟩)
      · exact q.elim
    · split at q
      · rename_i l hl
        obtain ⟨a, ys, rfl, hs, rl⟩ := seqOf_rep S r1 hl
        rw [rl.length] at q
        exact .inl ⟨a, ys, rfl, hs, post_here (a := D.int _) S rfl q⟩
      · split at q
        · rename_i ks vs hd
          obtain ⟨a, ys, rfl, rd, hl, rl⟩ := dicOf_rep S r1 hd
          refine .inr (.inr ⟨a, _, rfl, rd, ?_⟩)
          rw [List.length_zip, ← rl.length, ← hl, Nat.min_self]
          exact post_here (a := D.int _) S rfl q
        · exact q.elim
  · exact q.elim
theorem absD_ok : ArD X T absD (fun xs H Q => ∃ i, xs = [.int i] ∧ Q (.int (if i < 0 then -i else i)) H) := by
  intro W σ μ H m ds xs Q S r q
  unfold absD at q
  split at q
  · obtain ⟨v, rfl, r1⟩ := repL1 r
    cases r1
    exact ⟨_, rfl, post_here (a := D.int _) S rfl q⟩
  · exact q.elim
theorem intD_ok : ArD X T intD (fun xs H Q => (∃ i, xs = [.int i] ∧ Q (.int i) H) ∨ ∃ k, xs = [.bl k] ∧ Q (.int (if k then 1 else 0)) H) := by
  intro W σ μ H m ds xs Q S r q
  unfold intD at q
  split at q
  · obtain ⟨v, rfl, r1⟩ := repL1 r
    cases r1
    exact .inl ⟨_, rfl, post_here (a := D.int _) S rfl q⟩
  · obtain ⟨v, rfl, r1⟩ := repL1 r
    cases r1
    exact .inr ⟨_, rfl, post_here (a := D.int _) S rfl q⟩
  · exact q.elim
theorem strD_ok : ArD X T strD (fun xs H Q => ∃ i : Int, xs = [.int i] ∧ i.natAbs.log2 < 1920 ∧ Q (.str (toString i)) H) := by
  intro W σ μ H m ds xs Q S r q
  unfold strD at q
  split at q
  · obtain ⟨v, rfl, r1⟩ := repL1 r
    cases r1
    split at q
    · rename_i h
      unfold strOk at h
      rw [decide_eq_true_eq] at h
      exact ⟨_, rfl, h, post_here (a := D.str _) S rfl q⟩
    · exact q.elim
  · exact q.elim
theorem max2D_ok : ArD X T max2D (fun xs H Q => ∃ i j, xs = [.int i, .int j] ∧ Q (.int (if j > i then j else i)) H) := by
  intro W σ μ H m ds xs Q S r q
  unfold max2D at q
  split at q
  · obtain ⟨v, u, rfl, r1, r2⟩ := repL2 r
    cases r1; cases r2
    exact ⟨_, _, rfl, post_here (a := D.int _) S rfl q⟩
  · exact q.elim
theorem min2D_ok : ArD X T min2D (fun xs H Q => ∃ i j, xs = [.int i, .int j] ∧ Q (.int (if j < i then j else i)) H) := by
  intro W σ μ H m ds xs Q S r q
  unfold min2D at q
  split at q
  · obtain ⟨v, u, rfl, r1, r2⟩ := repL2 r
    cases r1; cases r2
    exact ⟨_, _, rfl, post_here (a := D.int _) S rfl q⟩
  · exact q.elim
def rTupF (K : PySem.W.Frag) : List V → Hp → VK → Prop := fun xs H Q => ∃ p ys, xs = [.ref p] ∧ ((SqL K H p ys ∧ ∀ l o, o.dict = none → H l = none → Q (.ref l) (upd H l (.frz o (.tup ys)))) ∨ (SqT K H p ys ∧ Q (.ref p) H))
theorem call_tupleF : CallR X (.type "tuple") (rTupF X.K) := by
  intro pins s σ H xs us Q I r h
  obtain ⟨p, ys, rfl, h⟩ := h
  obtain ⟨u, rfl, rx⟩ := vals1 r
  cases rx
  rcases h with ⟨hq, q⟩ | ⟨hq, q⟩
  · obtain ⟨its, r', pl, hz⟩ := I.list hq
    have hlen := r'.length
    refine call_tuple_list pl.isList (fun h' kp => ?_) (by simp only [List.size_toArray] <;> omega)
    have I1 : Inv X pins σ H { s with heap := h' } := I.kept (t' := s.toks) kp
    exact ⟨.ref h'.objs.size, _, I1.laidT (tk := s.toks) hz r', rfl, q _ _ rfl (I1.hok.fresh (Nat.le_refl _))⟩
  · obtain ⟨its, r', pl, hz⟩ := I.tuple hq
    exact call_tuple_same pl ⟨.ref p, H, I, rfl, q⟩
theorem tupleD_ok : ArD X T tupleD (rTupF X.K) := by
  intro W σ μ H m ds xs Q S r q
  unfold tupleD at q
  split at q
  · obtain ⟨v, rfl, r1⟩ := repL1 r
    split at q
    · obtain ⟨a, ys, rfl, hs, rl⟩ := r1
      exact ⟨a, ys, rfl, .inr ⟨hs.sqt, post_here (a := D.tup _) S ⟨a, ys, rfl, hs, rl⟩ q⟩⟩
    · split at q
      · rename_i l hl
        obtain ⟨a, ys, rfl, hs, rl⟩ := lstOf_rep S r1 hl
        exact ⟨a, ys, rfl, .inl ⟨hs, post_newT S rl q⟩⟩
      · exact q.elim
  · exact q.elim
theorem listD_ok : ArD X T listD (fun xs H Q => ∃ p ys, xs = [.ref p] ∧ (SqL X.K H p ys ∨ SqT X.K H p ys) ∧ ∀ l, H l = none → FQ Q (.ref l) (upd H l (.lst ys))) := by
  intro W σ μ H m ds xs Q S r q
  unfold listD at q
  split at q
  · obtain ⟨v, rfl, r1⟩ := repL1 r
    split at q
    · rename_i l hl
      obtain ⟨a, ys, rfl, hs, rl⟩ := seqOf_rep S r1 hl
      exact ⟨a, ys, rfl, hs, post_newL S rl q⟩
    · exact q.elim
  · exact q.elim
theorem bools_rep {K : PySem.W.Frag} {μ : List Addr} {H : Hp} : ∀ {l : List D} {bs : List Bool} {xs : List V}, RepL K μ H l xs → bools l = some bs → xs = bs.map V.bl
  | [], _, _, r, e => by cases e; cases r; rfl
  | .bl n :: l, _, _, r, e => by
    obtain ⟨x, xs, rfl, r1, r2⟩ := r
    cases r1
    unfold bools at e
    cases h : bools l with
    | none => rw [h] at e; cases e
    | some ns =>
      rw [h] at e
      cases e
      rw [bools_rep r2 h]
      rfl
  | .non :: _, _, _, _, e | .ty _ :: _, _, _, _, e | .int _ :: _, _, _, _, e | .str _ :: _, _, _, _, e | .tup _ :: _, _, _, _, e | .tmp _ :: _, _, _, _, e | .lst _ :: _, _, _, _, e | .dic _ _ :: _, _, _, _, e | .ref _ :: _, _, _, _, e | .cell _ :: _, _, _, _, e | .lam _ _ _ _ _ :: _, _, _, _, e | .scr _ :: _, _, _, _, e => by cases e
theorem allD_ok : ArD X T allD (rAll X.K) := by
  intro W σ μ H m ds xs Q S r q
  unfold allD at q
  split at q
  · obtain ⟨v, rfl, r1⟩ := repL1 r
    split at q
    · rename_i bs hb
      obtain ⟨l, hl, hbs⟩ := Option.bind_eq_some_iff.mp hb
      obtain ⟨a, ys, rfl, hs, rl⟩ := lstOf_rep S r1 hl
      have e := bools_rep rl hbs
      subst e
      exact ⟨a, bs, rfl, hs, post_here (a := D.bl _) S rfl q⟩
    · exact q.elim
  · exact q.elim
theorem anyD_ok : ArD X T anyD (rAny X.K) := by
  intro W σ μ H m ds xs Q S r q
  unfold anyD at q
  split at q
  · obtain ⟨v, rfl, r1⟩ := repL1 r
    split at q
    · rename_i bs hb
      obtain ⟨l, hl, hbs⟩ := Option.bind_eq_some_iff.mp hb
      obtain ⟨a, ys, rfl, hs, rl⟩ := lstOf_rep S r1 hl
      have e := bools_rep rl hbs
      subst e
      exact ⟨a, bs, rfl, hs, post_here (a := D.bl _) S rfl q⟩
    · exact q.elim
  · exact q.elim
end
end DL


/-! DLi: defs of a text, more statements, in, zip. -/
namespace DL
open PySem PySem.Spec L2
open PyProof.Rows hiding St

/-- a def of the text as the top has left it -/
structure DefAt (K : PySem.W.Frag) (mg : Str → Option Value) (x : Str) (st : Stmt) (ps : List Str) where
  f : Addr
  fd : FuncData
  F : Fun K x x st f fd
  m : mg x = some (.ref f)
  b : Binds K fd ps []
theorem _root_.L2.Room.units1 {k : Nat} {A : Around} (r : Room k A) : A.units + 65 < cLine := by have := r.un; omega

/-- a built-in class as a value -/
theorem de_ty (n : String) {X : Cx} {T : List (Addr × Str)} {W : WX} {x : Str} {pos : Pos} (hm : X.mg x = none) (hv : bootBuiltins x = some (.type n) := by decide +kernel) (hg : Gl X x := by rfl) (hn : x ≠ "__name__" := by decide) (hd : (x == ("__debug__" : Str)) = false := by decide) : DE X T W (.Name x pos) (eC (.ty n)) :=
  de_c (v := V.ty n) (pe_bltn hg hm hv rfl hn hd) fun _ _ => rfl

/-! ### a, b = e1, e2 and other targets -/
def sPar (i j : Nat) (G : LS) : SS := fun ρ m => (G ρ m).go ρ fun ds m1 => match ds with
  | [d, e] => .nx ((ρ.set i (some d)).set j (some e)) m1
  | _ => .no
def sAsg (F : ES) (g : GS) : SS := fun ρ m => (F ρ m).go ρ fun d m1 => RS.opt (g d ρ m1) fun ρ' => .nx ρ' m1
section
variable {X : Cx} {T : List (Addr × Str)} {W : WX} {pos : Pos}
theorem ds_par {i j : Nat} {x y : Str} {a b : Expr} {G : LS} {px py pt : Pos} {kt k2 : _} {pt2 : Pos} (hc : X.calm = true) (hN : X.N.Nodup) (hi : X.N[i]? = some x) (hj : X.N[j]? = some y) (hij : i ≠ j) (hx : X.env.scope.names.lookup x = some .local) (hy : X.env.scope.names.lookup y = some .local)
    (ha : DA X T W [a, b] G) (hs : swappedStores [.Tuple [.Name x px, .Name y py] kt pt] (.Tuple [a, b] k2 pt2) X.env = pure (some [x, y])) : DS X T W (.Assign [.Tuple [.Name x px, .Name y py] kt pt] (.Tuple [a, b] k2 pt2) pos) (sPar i j G) :=
  ⟨(ps_par hc hN hi hj hij hx hy ha.run hs).weak fun Z σ H ⟨μ, ρ, m, er, s, q⟩ => tG_mk er s (q.go er fun ds m1 μ1 H1 vs x1 s1 r1 q1 => by
    split at q1
    · obtain ⟨v, u, rfl, r, r'⟩ := repL2 r1
      exact ⟨v, u, rfl, q1.nx_here s1 (((er.ext x1).set r).set r')⟩
    · exact q1.elim)⟩
theorem ds_asg {t e : Expr} {F : ES} {ws : List Nat} {g : GS} (he : DE X T W e F) (hg : DG X T t ws g) (hs : swapsWithSole [t] e pos.line X.env = pure false := by rfl) (hw : swappedStores [t] e X.env = pure none := by rfl) (h1 : (assignEach [t] X.env).map (·.2) = [assign t X.env] := by rfl) : DS X T W (.Assign [t] e pos) (sAsg F g) :=
  ⟨(ps_asg he.run hg.run hs hw h1).weak fun Z σ H ⟨μ, ρ, m, er, s, q⟩ => tG_mk er s (q.go er fun d m1 μ1 H1 v x1 s1 r1 q1 => by
    cases hg : g d ρ m1 with
    | none => rw [hg] at q1; exact q1.elim
    | some ρ' =>
      rw [hg] at q1
      exact ⟨μ1, ρ, m1, d, er.ext x1, s1, r1, ρ', hg, fun σ' e' _ => q1.nx_here s1 e'⟩)⟩
end

/-! ### an empty dict that is a cell -/
def eDicC : ES := fun _ m => .ok (.cell m.length) (m ++ [.dic [] []])
theorem post_newDC {T : List (Addr × Str)} {K : PySem.W.Frag} {μ : List Addr} {H : Hp} {m : List C} {W : WX} {σ : L2.St} {ks : List Key} {l : List D} {xs : List V} {Q : VK} (S : Sto T K μ H m) (hl : ks.length = l.length) (r : RepL K μ H l xs) (h : Post (Rep K) T K W σ μ H (.ok (.cell m.length) (m ++ [.dic ks l])) Q) : ∀ p, H p = none → Q (.ref p) (upd H p (.dK (ks.zip xs))) := fun p hp => by
  have x : Ext μ H (μ ++ [p]) (upd H p (.dK (ks.zip xs))) := .cell hp
  exact h _ _ _ x (S.cell hp ⟨xs, upd_same, hl, r.ext x⟩) ⟨p, by rw [← S.len]; simp, rfl⟩
theorem de_dicC {X : Cx} {T : List (Addr × Str)} {W : WX} {pos : Pos} : DE X T W (.Dict [] [] pos) eDicC := ⟨pe_dnewK.weak fun σ H Q ⟨μ, ρ, m, er, s, q⟩ p hp => post_newDC (ks := []) (l := []) (xs := []) s rfl rfl q p hp⟩

/-! ### x op= y -/
def rIAddA : R2 := fun x y H Q => rI0 (fun i j => .int (i + j)) x y H Q ∨ ∃ i j, x = .str i ∧ y = .str j ∧ i.length + j.length ≤ sizeLine ∧ Q (.str (i ++ j)) H
theorem iop_addA {X : Cx} : OpR X (inplaceOp .Add) rIAddA := iop_add.or iop_add_str
/-- += of numbers and texts -/
def iaddD : D → D → List C → R D
  | .int i, .int j, m => .ok (.int (i + j)) m
  | .str x, .str y, m => if fits (x.length + y.length) then .ok (.str (x ++ y)) m else .no
  | _, _, _ => .no
theorem iaddD_ok {X : Cx} {T : List (Addr × Str)} : OpD X T iaddD rIAddA := by
  intro W σ μ H m d1 d2 x y Q S r1 r2 q
  unfold iaddD at q
  split at q
  · cases r1; cases r2
    exact .inl ⟨_, _, rfl, rfl, post_here (a := D.int _) S rfl q⟩
  · cases r1; cases r2
    split at q
    · rename_i hf
      exact .inr ⟨_, _, rfl, rfl, fits_iff.mp hf, post_here (a := D.str _) S rfl q⟩
    · exact q.elim
  · exact q.elim

/-! ### in -/
def flatOf : D → Option V
  | .non => some .non
  | .bl b => some (.bl b)
  | .int i => some (.int i)
  | .str x => some (.str x)
  | _ => none
def flatL : List D → Option (List V)
  | [] => some []
  | d :: l => (flatOf d).bind fun v => (flatL l).map fun vs => v :: vs
theorem flatOf_rep {K : PySem.W.Frag} {μ : List Addr} {H : Hp} {d : D} {v x : V} (r : Rep K μ H d v) (e : flatOf d = some x) : v = x ∧ flatV x = true := by
  cases d <;> first | (cases e; cases r; exact ⟨rfl, rfl⟩) | cases e
theorem flatL_rep {K : PySem.W.Frag} {μ : List Addr} {H : Hp} : ∀ {l : List D} {vs xs : List V}, RepL K μ H l vs → flatL l = some xs → vs = xs ∧ xs.all flatV = true
  | [], _, _, r, e => by cases e; cases r; exact ⟨rfl, rfl⟩
  | d :: l, _, _, r, e => by
    obtain ⟨x, xs, rfl, r1, r2⟩ := r
    unfold flatL at e
    cases h1 : flatOf d with
    | none => rw [h1] at e; cases e
    | some y =>
      rw [h1] at e
      cases h2 : flatL l with
      | none => rw [h2] at e; cases e
      | some ys =>
        rw [h2] at e
        cases e
        obtain ⟨rfl, f1⟩ := flatOf_rep r1 h1
        obtain ⟨rfl, f2⟩ := flatL_rep r2 h2
        exact ⟨rfl, by rw [List.all_cons, f1, f2]; rfl⟩
def strIn (x y : Str) : Bool := !(Builtin.Str.occurrences y x 0 y.length 1).isEmpty
/-- x in y -/
def inB (a b : D) (m : List C) : Option Bool := match a, b with
  | .str x, .str y => some (strIn x y)
  | a, b => match seqOf m b with
    | some l => (match flatOf a, flatL l with
      | some x, some xs => some (inV x xs)
      | _, _ => match a.data, dataOf m b with
        | some x, some (.list xs) => if SeqAt.shaped x && SeqAt.shaped (.list xs) then some (xs.any fun z => PyData.eqv z x) else none
        | _, _ => none)
    | none => match dicOf m b, keyOf a with
      | some (ks, vs), some k => some (lookD ks vs k).isSome
      | _, _ => none
def inD : D → D → List C → R D := fun a b m => match inB a b m with
  | some k => .ok (.bl k) m
  | none => .no
def notInD : D → D → List C → R D := fun a b m => match inB a b m with
  | some k => .ok (.bl (!k)) m
  | none => .no
def rInA (K : PySem.W.Frag) (f : Bool → Bool) : R2 := fun x y H Q => (∃ i j, x = .str i ∧ y = .str j ∧ Q (.bl (f (strIn i j))) H) ∨ (∃ p xs, y = .ref p ∧ (SqL K H p xs ∨ SqT K H p xs) ∧ flatV x = true ∧ xs.all flatV = true ∧ Q (.bl (f (inV x xs))) H) ∨
  (∃ d ds, Dp K H x d ∧ Dp K H y (.list ds) ∧ SeqAt.shaped d = true ∧ SeqAt.shaped (.list ds) = true ∧ Q (.bl (f (ds.any fun z => PyData.eqv z d))) H) ∨ ∃ a o, y = .ref a ∧ DGet H a x o ∧ Q (.bl (f o.isSome)) H
section
variable {X : Cx} {T : List (Addr × Str)}
theorem op_inDict (hu : X.A.units + 1 < cLine) : OpR X (compareOp .In) (fun x y H Q => ∃ a o, y = .ref a ∧ DGet H a x o ∧ Q (.bl (id o.isSome)) H) := by
  intro pins s σ H x y v u Q I rx ry h
  obtain ⟨a, o, rfl, g, q⟩ := h
  cases ry
  exact d_in hu I g rx fun s' I' => ⟨.bl _, H, I', rfl, q⟩
theorem op_notInDict (hu : X.A.units + 1 < cLine) : OpR X (compareOp .NotIn) (fun x y H Q => ∃ a o, y = .ref a ∧ DGet H a x o ∧ Q (.bl (!o.isSome)) H) := by
  intro pins s σ H x y v u Q I rx ry h
  obtain ⟨a, o, rfl, g, q⟩ := h
  cases ry
  exact d_notIn hu I g rx fun s' I' => ⟨.bl _, H, I', rfl, q⟩
theorem op_inA (hu5 : X.A.units + 65 < cLine) (hu : X.A.units + 1 < cLine) : OpR X (compareOp .In) (rInA X.K id) := OpR.or op_in_str (OpR.or op_in_seq (OpR.or (op_inD hu5) (op_inDict hu)))
theorem op_notInA (hu5 : X.A.units + 65 < cLine) (hu : X.A.units + 1 < cLine) : OpR X (compareOp .NotIn) (rInA X.K not) := OpR.or op_notin_str (OpR.or op_notIn_seq (OpR.or (op_notInD hu5) (op_notInDict hu)))
theorem inB_ok {f : Bool → Bool} {μ : List Addr} {H : Hp} {m : List C} {d1 d2 : D} {x y : V} {Q : VK} {k : Bool} (S : Sto T X.K μ H m) (r1 : Rep X.K μ H d1 x) (r2 : Rep X.K μ H d2 y) (e : inB d1 d2 m = some k) (q : Q (.bl (f k)) H) : rInA X.K f x y H Q := by
  unfold inB at e
  split at e
  · cases r1; cases r2; cases e
    exact .inl ⟨_, _, rfl, rfl, q⟩
  · split at e
    · rename_i l hl
      obtain ⟨a, xs, rfl, hs, rl⟩ := seqOf_rep S r2 hl
      split at e
      · rename_i v vs h1 h2
        cases e
        obtain ⟨rfl, f1⟩ := flatOf_rep r1 h1
        obtain ⟨rfl, f2⟩ := flatL_rep rl h2
        exact .inr (.inl ⟨a, _, rfl, hs, f1, f2, q⟩)
      · split at e
        · rename_i v vs h1 h2
          split at e
          · rename_i hh
            cases e
            rw [Bool.and_eq_true] at hh
            exact .inr (.inr (.inl ⟨v, vs, data_dp _ r1 h1, dataOf_dp S r2 h2, hh.1, hh.2, q⟩))
          · cases e
        · cases e
    · split at e
      · rename_i ks vs k' hd hk
        obtain ⟨a, xs, rfl, rd, hl, rl⟩ := dicOf_rep S r2 hd
        have ek := keyOf_rep r1 hk
        subst ek
        cases e
        refine .inr (.inr (.inr ⟨a, valV (ks.zip xs) k', rfl, .inl ⟨_, _, rd, rfl, rfl⟩, ?_⟩))
        have lk := lookD_rep (k := k') rl hl
        cases hL : lookD ks vs k' with
        | none => rw [hL] at q; rw [lk.2 hL]; exact q
        | some d =>
          obtain ⟨v, ev, _⟩ := lk.1 d hL
          rw [hL] at q
          rw [ev]
          exact q
      · cases e
theorem inD_ok : OpD X T inD (rInA X.K id) := by
  intro W σ μ H m d1 d2 x y Q S r1 r2 q
  unfold inD at q
  split at q
  · rename_i k hk
    exact inB_ok S r1 r2 hk (post_here (a := D.bl _) S rfl q)
  · exact q.elim
theorem notInD_ok : OpD X T notInD (rInA X.K not) := by
  intro W σ μ H m d1 d2 x y Q S r1 r2 q
  unfold notInD at q
  split at q
  · rename_i k hk
    exact inB_ok S r1 r2 hk (post_here (a := D.bl _) S rfl q)
  · exact q.elim
end
end DL


/-! DLj: constants of the module, raise, dict(pairs), get, zip. -/
namespace DL
open PySem PySem.Spec L2
open PyProof.Rows hiding St

section
variable {X : Cx} {T : List (Addr × Str)} {W : WX} {pos : Pos}
/-- a number of the module -/
theorem de_cint (i : Int) {x : Str} (h : ∃ t, X.mg x = some (.int i t)) (hg : Gl X x := by rfl) (hd : (x == ("__debug__" : Str)) = false := by decide) : DE X T W (.Name x pos) (eC (.int i)) := by
  obtain ⟨t, h⟩ := h
  exact de_c (v := V.int i) (pe_glob hg h ⟨t, rfl⟩ hd) fun _ _ => rfl
theorem de_cstr (y : Str) {x : Str} (h : ∃ t, X.mg x = some (.str y t)) (hg : Gl X x := by rfl) (hd : (x == ("__debug__" : Str)) = false := by decide) : DE X T W (.Name x pos) (eC (.str y)) := by
  obtain ⟨t, h⟩ := h
  exact de_c (v := V.str y) (pe_glob hg h ⟨t, rfl⟩ hd) fun _ _ => rfl
/-- a statement that is never reached -/
def sNever : SS := fun _ _ => .no
theorem ds_never {st : Stmt} : DS X T W st sNever := ⟨ps_never.weak fun Z σ H ⟨μ, ρ, m, er, s, q⟩ => q⟩

/-! ### raise -/
/-- an own error class without own __init__ -/
structure ErrAt (K : PySem.W.Frag) (mg : Str → Option Value) (x : Str) (c : Addr) : Prop where
  g : mg x = some (.ref c)
  e : PySem.W.excIn K c [.type "ValueError", .type "Exception", .type "BaseException", .type "object"] "ValueError.__new__" = true
  k : PySem.W.keepIn K (.ref c) = true
  b : PySem.W.subIn K (.ref c) (.type "BaseException") = some true
  t : PySem.W.typeIn K (.ref c) = some (.type "type")
theorem pmk_err0 {x : Str} {p : Pos} {c : Addr} (e : ErrAt X.K X.mg x c) (hg : Gl X x := by rfl) (hd : (x == ("__debug__" : Str)) = false := by decide) : PMk X (.Call (.Name x p) [] [] pos) (fun _ H Q => Q (.ref c) none H) := by
  intro pins s σ H Q I h
  refine wpAny_Call_Name_kw (ld_glob I hg e.g ?_ hd)
  refine PySem.W.callWith_K0 I.kIn e.k ?_
  obtain ⟨bm, N, nm, qn, bs, hdct, sn, sub, ab, col, dd, k0, k1, k2, k3, k5, mN, hC, hN, hni, T⟩ := exc_obj I.kIn e.e
  exact wpAny_call_exc_subT PySem.F.excBase_ValueError T hC hN hni (fun h' x hm => mk_of I hm (raises_own e.b e.t) h (I.hok.gone hm.new)) (Nat.zero_le _)
def sRaise0 (c : Addr) : SS := fun ρ m => .ex c [] [] ρ m
theorem ds_raise0 {x : Str} {p pos' : Pos} {c : Addr} (hc : X.calm = true) (tk : Takes X W) (e : ErrAt X.K X.mg x c) (hg : Gl X x := by rfl) (hd : (x == ("__debug__" : Str)) = false := by decide) : DS X T W (.Raise (some (.Call (.Name x p) [] [] pos)) none pos') (sRaise0 c) :=
  ⟨(ps_raise hc tk (pmk_err0 e hg hd)).weak fun Z σ H ⟨μ, ρ, m, er, s, q⟩ => q μ H σ none (.refl _ _) s er (.inl ⟨rfl, rfl, rfl⟩)⟩
end

/-! ### zip of two lists or two tuples -/
def zipD : List D → List D → List D
  | x :: xs, y :: ys => .tmp [x, y] :: zipD xs ys
  | _, _ => []
theorem zipD_length : ∀ xs ys : List D, (zipD xs ys).length = min xs.length ys.length
  | [], _ => by simp [zipD]
  | _ :: _, [] => by simp [zipD]
  | x :: xs, y :: ys => by simp [zipD, zipD_length xs ys]
theorem zipD_get : ∀ {xs ys : List D} {i : Nat} {d : D}, (zipD xs ys)[i]? = some d → ∃ x y, d = .tmp [x, y] ∧ xs[i]? = some x ∧ ys[i]? = some y
  | [], _, _, _, h => by simp [zipD] at h
  | _ :: _, [], _, _, h => by simp [zipD] at h
  | x :: xs, y :: ys, 0, d, h => by
    simp [zipD] at h
    subst h
    exact ⟨x, y, rfl, rfl, rfl⟩
  | x :: xs, y :: ys, i + 1, d, h => by
    simp [zipD] at h
    obtain ⟨a, b, e, h1, h2⟩ := zipD_get h
    exact ⟨a, b, e, by simpa using h1, by simpa using h2⟩
def iZipD (G : LS) : LS := fun ρ m => (G ρ m).bind fun l m1 => match l with
  | [.lst a, .lst b] => .ok (zipD a b) m1
  | [.tup a, .tup b] => .ok (zipD a b) m1
  | _ => .no
section
variable {X : Cx} {T : List (Addr × Str)} {W : WX} {pos : Pos}
theorem tmp_new {K : PySem.W.Frag} {μ : List Addr} {H : Hp} {m : List C} {p : Addr} {l : List D} {xs : List V} (s : Sto T K μ H m) (hp : H p = none) (r : RepL K μ H l xs) : Ext μ H μ (upd H p (.tup xs)) ∧ Sto T K μ (upd H p (.tup xs)) m ∧ Rep K μ (upd H p (.tup xs)) (.tmp l) (.ref p) := by
  have x : Ext μ H μ (upd H p (.tup xs)) := .new hp
  exact ⟨x, s.new hp, p, xs, rfl, SqT.of upd_same, r.ext x⟩
theorem iter_zipL {K : PySem.W.Frag} {μ : List Addr} {H : Hp} {a b : Addr} {xs ys : List V} {l k : List D} (h1 : FzL K H a xs) (r1 : RepL K μ H l xs) (h2 : FzL K H b ys) (r2 : RepL K μ H k ys) : IterOk T K (Itz K a b) (zipD l k) μ H := by
  have st1 : ∀ H', Kept H H' → SqL K H' a xs := fun H' q => FzL.sql (show FzL K H' a xs from h1.imp fun o e => q.frz _ _ _ e)
  have st2 : ∀ H', Kept H H' → SqL K H' b ys := fun H' q => FzL.sql (show FzL K H' b ys from h2.imp fun o e => q.frz _ _ _ e)
  refine ⟨fun i H' q hi => ?_, fun H' q => ⟨xs, ys, st1 H' q, st2 H' q, ?_⟩, fun i H' x H2 μ' m d q hp s hd hy => ?_⟩
  · rw [zipD_length] at hi
    obtain ⟨v, hv, _⟩ := r1.get (List.getElem?_eq_getElem (show i < l.length by omega))
    obtain ⟨u, hu, _⟩ := r2.get (List.getElem?_eq_getElem (show i < k.length by omega))
    exact ⟨xs, ys, v, u, st1 H' q, st2 H' q, hv, hu⟩
  · rw [zipD_length, r1.length, r2.length]
    omega
  · obtain ⟨dx, dy, rfl, e1, e2⟩ := zipD_get hd
    obtain ⟨p, x', y', rfl, hp', rfl, f1, f2⟩ := hy
    obtain ⟨v, hv, rv⟩ := r1.get e1
    obtain ⟨u, hu, ru⟩ := r2.get e2
    have z1 := f1 xs (st1 _ q)
    have z2 := f2 ys (st2 _ q)
    rw [hv] at z1
    rw [hu] at z2
    cases z1; cases z2
    exact tmp_new s hp' (.cons (rv.keep q hp) (.cons (ru.keep q hp) .nil))
theorem iter_zipT {K : PySem.W.Frag} {μ : List Addr} {H : Hp} {a b : Addr} {xs ys : List V} {l k : List D} (h1 : TpL K H a xs) (r1 : RepL K μ H l xs) (h2 : TpL K H b ys) (r2 : RepL K μ H k ys) : IterOk T K (RZ.ItzT K a b) (zipD l k) μ H := by
  have st1 : ∀ H', Kept H H' → SqT K H' a xs := fun H' q => (q.tpL h1).sqt
  have st2 : ∀ H', Kept H H' → SqT K H' b ys := fun H' q => (q.tpL h2).sqt
  refine ⟨fun i H' q hi => ?_, fun H' q => ⟨xs, ys, st1 H' q, st2 H' q, ?_⟩, fun i H' x H2 μ' m d q hp s hd hy => ?_⟩
  · rw [zipD_length] at hi
    obtain ⟨v, hv, _⟩ := r1.get (List.getElem?_eq_getElem (show i < l.length by omega))
    obtain ⟨u, hu, _⟩ := r2.get (List.getElem?_eq_getElem (show i < k.length by omega))
    exact ⟨xs, ys, v, u, st1 H' q, st2 H' q, hv, hu⟩
  · rw [zipD_length, r1.length, r2.length]
    omega
  · obtain ⟨dx, dy, rfl, e1, e2⟩ := zipD_get hd
    obtain ⟨p, x', y', rfl, hp', rfl, f1, f2⟩ := hy
    obtain ⟨v, hv, rv⟩ := r1.get e1
    obtain ⟨u, hu, ru⟩ := r2.get e2
    have z1 := f1 xs (st1 _ q)
    have z2 := f2 ys (st2 _ q)
    rw [hv] at z1
    rw [hu] at z2
    cases z1; cases z2
    exact tmp_new s hp' (.cons (rv.keep q hp) (.cons (ru.keep q hp) .nil))
theorem di_zip {e e2 : Expr} {G : LS} {p tpos : Pos} {elts : List Expr} {kk : Nat} (hm : X.mg "zip" = none) (ha : DA X T W [e, e2] G) (hg : Gl X "zip" := by rfl)
    (hs : starEach [e, e2] X.env = (false, eval e X.env) :: starEach [e2] X.env := by rfl) (hpl : (backTo pos (starEach [e2] X.env)).any (·.1) = false := by rfl) : DI X T W (.Tuple elts kk tpos) (.Call (.Name "zip" p) [e, e2] [] pos) (iZipD G) :=
  ⟨(RZ.pi_zipA hg hm ha.run hs hpl).weak fun σ H R ⟨μ, ρ, m, er, s, q⟩ => tG_mk er s (q.bind fun l m1 μ1 H1 vs x1 s1 r1 q1 => by
    split at q1
    · obtain ⟨v, u, rfl, r, r'⟩ := repL2 r1
      obtain ⟨a, xs, rfl, f1, q2⟩ := r
      obtain ⟨b, ys, rfl, f2, q3⟩ := r'
      exact ⟨a, b, xs, ys, rfl, .inl ⟨f1.sql, f2.sql, post_here (rp := iRep T X.K) s1 (iter_zipL f1 q2 f2 q3) q1⟩⟩
    · obtain ⟨v, u, rfl, r, r'⟩ := repL2 r1
      obtain ⟨a, xs, rfl, f1, q2⟩ := r
      obtain ⟨b, ys, rfl, f2, q3⟩ := r'
      exact ⟨a, b, xs, ys, rfl, .inr ⟨f1.sqt, f2.sqt, post_here (rp := iRep T X.K) s1 (iter_zipT f1 q2 f2 q3) q1⟩⟩
    · exact q1.elim)⟩
end

/-! ### d.get(k, x) -/
def eGet2 (Fo Fk Fx : ES) : ES := fun ρ m => (Fo ρ m).bind fun o m1 => match dicOf m1 o with
  | none => .no
  | some _ => (Fk ρ m1).bind fun k m2 => (Fx ρ m2).bind fun x m3 => match dicOf m3 o, keyOf k with
    | some (ks, vs), some k => (match lookD ks vs k with
      | some v => .ok v m3
      | none => .ok x m3)
    | _, _ => .no
section
variable {X : Cx} {T : List (Addr × Str)} {W : WX}
theorem de_get2 {o e f : Expr} {apos cpos : Pos} {Fo Fk Fx : ES} (hu : X.A.units + 1 < cLine) (ho : DE X T W o Fo) (he : DE X T W e Fk) (hf : DE X T W f Fx) (m : M2 X o "get" apos e f cpos := by exact ⟨rfl, rfl, rfl, rfl⟩) : DE X T W (.Call (.Attribute o "get" apos) [e, f] [] cpos) (eGet2 Fo Fk Fx) :=
  ⟨(pe_dget2 hu ho.run he.run hf.run m).weak fun σ H Q ⟨μ, ρ, m, er, s, q⟩ => tG_mk er s (q.bind fun d m1 μ1 H1 x x1 s1 r1 q1 => by
    cases hd : dicOf m1 d with
    | none => rw [hd] at q1; exact q1.elim
    | some p =>
      obtain ⟨ks, vs⟩ := p
      rw [hd] at q1
      obtain ⟨a, xs, rfl, rd, hl, rl⟩ := dicOf_rep s1 r1 hd
      refine ⟨a, rfl, .inl ⟨_, rd⟩, tG_mk (er.ext x1) s1 (q1.bind fun k m2 μ2 H2 y x2 s2 r2 q2 => tG_mk ((er.ext x1).ext x2) s2 (q2.bind fun z m3 μ3 H3 w x3 s3 r3 q3 => ?_))⟩
      split at q3
      · rename_i ks' vs' k' hd' hk
        obtain ⟨a', ys, ea, rd', hl', rl'⟩ := dicOf_rep s3 ((r1.ext x2).ext x3) hd'
        cases ea
        have ek := keyOf_rep (r2.ext x3) hk
        subst ek
        refine ⟨valV (ks'.zip ys) k', .inl ⟨_, _, rd', rfl, rfl⟩, ?_⟩
        have lk := lookD_rep (k := k') rl' hl'
        cases hL : lookD ks' vs' k' with
        | none =>
          rw [hL] at q3
          rw [lk.2 hL]
          exact post_here s3 r3 q3
        | some v =>
          rw [hL] at q3
          obtain ⟨u, eu, ru⟩ := lk.1 v hL
          rw [eu]
          exact post_here s3 ru q3
      · exact q3.elim)⟩
end

/-! ### dict(pairs) -/
/-- the pairs of a list -/
def pairsD : List D → Option (List Key × List D)
  | [] => some ([], [])
  | .tup [k, v] :: l => match keyOf k, pairsD l with
    | some k, some (ks, vs) => some (k :: ks, v :: vs)
    | _, _ => none
  | _ => none
def mergeD (ks0 : List Key) (vs0 : List D) : List Key → List D → List Key × List D
  | k :: ks, v :: vs => mergeD (putD ks0 vs0 k v).1 (putD ks0 vs0 k v).2 ks vs
  | _, _ => (ks0, vs0)
/-- dict(pairs), a cell -/
def dictD : FS := fun ds m => match ds with
  | [d] => (match d with
    | .lst l => (match pairsD l with
      | some (ks, vs) => .ok (.cell m.length) (m ++ [.dic (mergeD [] [] ks vs).1 (mergeD [] [] ks vs).2])
      | none => .no)
    | .tup l => (match pairsD l with
      | some (ks, vs) => .ok (.cell m.length) (m ++ [.dic (mergeD [] [] ks vs).1 (mergeD [] [] ks vs).2])
      | none => .no)
    | _ => .no)
  | _ => .no
section
variable {K : PySem.W.Frag} {μ : List Addr} {H : Hp}
theorem mergeD_rep : ∀ {ks : List Key} {vs : List D} {xs : List V} {ks0 : List Key} {vs0 : List D} {xs0 : List V}, RepL K μ H vs xs → ks.length = vs.length → RepL K μ H vs0 xs0 → ks0.length = vs0.length →
    ∃ ys, mergeK (ks0.zip xs0) (ks.zip xs) = (mergeD ks0 vs0 ks vs).1.zip ys ∧ RepL K μ H (mergeD ks0 vs0 ks vs).2 ys ∧ (mergeD ks0 vs0 ks vs).1.length = (mergeD ks0 vs0 ks vs).2.length
  | [], vs, xs, ks0, vs0, xs0, r, e, r0, e0 => by
    have : vs = [] := by simpa using e.symm
    subst this
    cases r
    exact ⟨xs0, rfl, r0, e0⟩
  | k :: ks, [], _, _, _, _, _, e, _, _ => by cases e
  | k :: ks, v :: vs, _, ks0, vs0, xs0, r, e, r0, e0 => by
    obtain ⟨x, xs, rfl, r1, r2⟩ := r
    obtain ⟨ys, h1, h2, h3⟩ := putD_rep (k := k) r0 e0 r1
    obtain ⟨zs, g1, g2, g3⟩ := mergeD_rep (ks := ks) r2 (Nat.succ.inj e) h2 h3
    refine ⟨zs, ?_, g2, g3⟩
    rw [List.zip_cons_cons]
    show mergeK (putK (ks0.zip xs0) k x) (ks.zip xs) = (mergeD (putD ks0 vs0 k v).1 (putD ks0 vs0 k v).2 ks vs).1.zip zs
    rw [h1]
    exact g1
end
section
variable {X : Cx} {T : List (Addr × Str)}
/-- the pairs as the library's rule wants them -/
theorem pairs_at {pins : List (Addr × Obj)} {σ : L2.St} {μ : List Addr} {H : Hp} {s : Shared} (I : Inv X pins σ H s) : ∀ {l : List D} {xs : List V} {us : List Value} {ks : List Key} {vs : List D}, RepL X.K μ H l xs → Vals xs us → pairsD l = some (ks, vs) →
    ∃ (as : List Addr) (ps : List (Value × Value)) (ys : List V) (ws : List Value), us = as.map Value.ref ∧ as.length = ps.length ∧ ks.length = vs.length ∧ RepL X.K μ H vs ys ∧ Vals ys ws ∧ ws.length = ps.length ∧ ks.length = ps.length ∧
      (∀ (j : Nat) (k v : Value), ps[j]? = some (k, v) → ∃ a, as[j]? = some a ∧ s.heap.IsTuple a #[k, v] ∧ ∃ k', ks[j]? = some k' ∧ keyIs k' k = true ∧ ws[j]? = some v)
  | [], _, _, _, _, r, rv, e => by
    cases e; cases r; cases rv
    exact ⟨[], [], [], [], rfl, rfl, rfl, rfl, .nil, rfl, rfl, fun j k v h => by simp at h⟩
  | d :: l, _, _, ks, vs, r, rv, e => by
    obtain ⟨x, xs, rfl, r1, r2⟩ := r
    cases rv with
    | cons rx rr =>
      unfold pairsD at e
      split at e
      · cases ‹d :: l = []›
      · rename_i dk dv l' hl
        cases hl
        split at e
        · rename_i k ks' vs' hk hp
          cases e
          obtain ⟨as, ps, ys, ws, h1, h2, h3, h4, h5, h6, h7, h8⟩ := pairs_at I r2 rr hp
          obtain ⟨a, zs, rfl, hs, rz⟩ := r1
          obtain ⟨zk, zv, rfl, rk, rvv⟩ := repL2 rz
          cases rx
          obtain ⟨its, rits, ht, _⟩ := I.tuple hs.sqt
          obtain ⟨uk, uv, rfl, ruk, ruv⟩ := vals2 rits
          have ek := keyOf_rep rk hk
          subst ek
          refine ⟨a :: as, (uk, uv) :: ps, zv :: ys, uv :: ws, by rw [h1]; rfl, by simp [h2], by simp [h3], .cons rvv h4, .cons ruv h5, by simp [h6], by simp [h7], fun j k' v' hj => ?_⟩
          cases j with
          | zero =>
            simp at hj
            obtain ⟨rfl, rfl⟩ := hj
            exact ⟨a, rfl, ht, k, rfl, kV_is (P := X.prog) (w := X.w) ruk, rfl⟩
          | succ j =>
            obtain ⟨b, e1, e2, k2, e3, e4, e5⟩ := h8 j k' v' (by simpa using hj)
            exact ⟨b, by simpa using e1, e2, k2, by simpa using e3, e4, by simpa using e5⟩
        · cases e
      · cases e
def rDictA (K : PySem.W.Frag) : List V → Hp → VK → Prop := fun xs H Q => ∃ (μ : List Addr) (a : Addr) (ys zs : List V) (l : List D) (ks : List Key) (vs : List D), xs = [.ref a] ∧ ((∃ o, H a = some (.frz o (.lst ys))) ∨ TpL K H a ys) ∧ RepL K μ H l ys ∧ pairsD l = some (ks, vs) ∧
  ∀ xs', RepL K μ H vs xs' → ks.length = vs.length → ∀ p, H p = none → Q (.ref p) (upd H p (.dK (mergeK [] (ks.zip xs'))))
theorem call_dictA (hcalm : X.calm = true) : CallR X (.type "dict") (rDictA X.K) := by
  intro pins s σ H xs us Q I r h
  obtain ⟨μ, a, ys, zs, l, ks, vs, rfl, hsrc, rl, hp, q⟩ := h
  obtain ⟨u, rfl, rx⟩ := vals1 r
  cases rx
  have fin : ∀ {its : List Value} {ps : List (Value × Value)} {ws : List Value} {xs' : List V} {T : String} {fp wr : List Addr} {OK : Heap → Prop}, PairArg X.prog X.w T a fp [] ps.length (PairRel ps) OK → OK s.heap → RepL X.K μ H vs xs' → Vals xs' ws → ks.length = vs.length → ws.length = ps.length → ks.length = ps.length →
      (∀ (j : Nat) (k v : Value), ps[j]? = some (k, v) → ∃ k', ks[j]? = some k' ∧ keyIs k' k = true ∧ ws[j]? = some v) → ps.length ≤ sizeLine → wpAny (model X.prog X.w) X.A (call (.type "dict") [.ref a]) (EP X pins σ Q) X.xe s := by
    intro its ps ws xs' T fp wr OK P ok r4 r5 e3 e6 e7 e8 hz
    have hkv : ∀ {ks : List Key} {xs' : List V} {ws : List Value}, Vals xs' ws → KV (ks.zip xs') (ks.zip ws) := by
      intro ks
      induction ks with
      | nil => intro xs' ws _; exact .nil
      | cons k ks ih =>
        intro xs' ws h
        cases h with
        | nil => exact .nil
        | cons h1 h2 => exact .cons ⟨rfl, h1⟩ (ih h2)
    refine PySem.call_dict_pairs (knd := mixKind X.prog X.w) (kvs := ks.zip ws) P (I.ok.hd hcalm) ok ⟨by rw [List.length_zip, e7, e6, Nat.min_self], fun i key v hi => ?_⟩ hz fun h' tk hd' hk => ?_
    · obtain ⟨k', g1, g2, g3⟩ := e8 i key v hi
      exact ⟨k', by rw [List.getElem?_zip_eq_some]; exact ⟨g1, g3⟩, g2⟩
    · have hm : (s.heap.objs.size == sysModules) = false := beq_eq_false_iff_ne.mpr (Nat.ne_of_gt I.big)
      have hlen : (mergeK [] (ks.zip xs')).length ≤ sizeLine := by
        refine Nat.le_trans (length_mergeK _ []) ?_
        rw [List.length_nil, Nat.zero_add, List.length_zip, r5.length, e6, e7, Nat.min_self]
        exact hz
      exact ⟨.ref s.heap.objs.size, _, I.laid (t' := tk) (fun b o e => hk b o (fun z => nomatch z) e) (Nat.le_refl _) (show ObjOk X.prog X.w _ _ _ (.dK (mergeK [] (ks.zip xs'))) from ⟨hlen, hm, _, KV.merge (hkv r5) .nil, hd'⟩), rfl, q xs' r4 e3 _ (I.hok.fresh (Nat.le_refl _))⟩
  rcases hsrc with ⟨o, hH⟩ | hT
  · obtain ⟨his, hO⟩ := I.hok a _ hH
    obtain ⟨hz, its, n, rv, ho⟩ := hO
    obtain ⟨as, ps, xs', ws, e1, e2, e3, r4, r5, e6, e7, e8⟩ := pairs_at I rl rv hp
    subst e1
    refine fin (its := []) (wr := []) (PairArg.list a (as.map Value.ref).toArray (fun j => as.getD j 0) ps) ⟨⟨_, n, ho, rfl, rfl, rfl⟩, ?_⟩ r4 r5 e3 e6 e7 (fun j k v hj => ?_) ?_
    · refine ⟨by simp [e2], fun j k v hj => ?_⟩
      obtain ⟨b, g1, g2, _⟩ := e8 j k v hj
      have g0 : as.getD j 0 = b := by rw [List.getD_eq_getElem?_getD, g1]; rfl
      exact ⟨by dsimp only; rw [g0]; simp [g1], by dsimp only; rw [g0]; exact .inl g2⟩
    · obtain ⟨b, g1, g2, k', g3, g4, g5⟩ := e8 j k v hj
      exact ⟨k', g3, g4, g5⟩
    · have := rv.length
      rw [List.length_map] at this
      omega
  · have hget : ∃ (o : Obj) (its : List Value) (n : Nat), s.heap.get? a = some o ∧ o.cls = .type "tuple" ∧ o.dict = none ∧ o.data = .seq its.toArray n ∧ Vals ys its ∧ ys.length ≤ sizeLine := by
      rcases hT with ⟨o, hH, hd⟩ | ⟨o, its, n, hk, hc, hd, hs, hz, rv⟩
      · obtain ⟨his, hO⟩ := I.hok a _ hH
        obtain ⟨hz, its, rv, o', ho', hc, n, hs⟩ := hO
        rw [his] at ho'
        cases ho'
        exact ⟨o, its, n, his, hc, hd, hs, rv, hz⟩
      · have := rv.length
        rw [Array.length_toList] at this
        exact ⟨o, its.toList, n, I.kIn a o hk, hc, hd, by simpa using hs, rv, by rw [rv.length, Array.length_toList]; exact hz⟩
    obtain ⟨o, its, n, ho, hc, hd, hs, rv, hz⟩ := hget
    obtain ⟨as, ps, xs', ws, e1, e2, e3, r4, r5, e6, e7, e8⟩ := pairs_at I rl rv hp
    subst e1
    refine fin (its := []) (wr := []) (PairArg.tuple a (as.map Value.ref).toArray (fun j => as.getD j 0) ps) ⟨⟨o, n, ho, hc, hd, hs⟩, ?_⟩ r4 r5 e3 e6 e7 (fun j k v hj => ?_) ?_
    · refine ⟨by simp [e2], fun j k v hj => ?_⟩
      obtain ⟨b, g1, g2, _⟩ := e8 j k v hj
      have g0 : as.getD j 0 = b := by rw [List.getD_eq_getElem?_getD, g1]; rfl
      exact ⟨by dsimp only; rw [g0]; simp [g1], by dsimp only; rw [g0]; exact .inl g2⟩
    · obtain ⟨b, g1, g2, k', g3, g4, g5⟩ := e8 j k v hj
      exact ⟨k', g3, g4, g5⟩
    · have := rv.length
      rw [List.length_map] at this
      omega
theorem dictD_ok : ArD X T dictD (rDictA X.K) := by
  intro W σ μ H m ds xs Q S r q
  have key : ∀ {l : List D} {ks : List Key} {vs : List D}, Post (Rep X.K) T X.K W σ μ H (.ok (.cell m.length) (m ++ [.dic (mergeD [] [] ks vs).1 (mergeD [] [] ks vs).2])) Q → ∀ xs', RepL X.K μ H vs xs' → ks.length = vs.length → ∀ p, H p = none → Q (.ref p) (upd H p (.dK (mergeK [] (ks.zip xs')))) := by
    intro l ks vs q xs' r' e' p hp
    obtain ⟨ys, h1, h2, h3⟩ := mergeD_rep (ks0 := []) (vs0 := []) (xs0 := []) r' e' rfl rfl
    rw [show ([] : List (Key × V)) = ([] : List Key).zip ([] : List V) from rfl, h1]
    exact post_newDC S h3 h2 q p hp
  unfold dictD at q
  split at q
  · obtain ⟨v, rfl, r1⟩ := repL1 r
    split at q
    · rename_i l
      split at q
      · rename_i ks vs hp
        obtain ⟨a, ys, rfl, f, rl⟩ := r1
        exact ⟨μ, a, ys, [], l, ks, vs, rfl, .inl f, rl, hp, key (l := l) q⟩
      · exact q.elim
    · rename_i l
      split at q
      · rename_i ks vs hp
        obtain ⟨a, ys, rfl, f, rl⟩ := r1
        exact ⟨μ, a, ys, [], l, ks, vs, rfl, .inr f, rl, hp, key (l := l) q⟩
      · exact q.elim
    · exact q.elim
  · exact q.elim
end
end DL


/-! DLk: lambdas handed to a def, try .. except .. as, isinstance of an error. -/
namespace DL
open PySem PySem.Spec L2
open PyProof.Rows hiding St

/-! ### the outer names, packed -/
def packD (ρ : Env) : List D := ρ.map fun o => o.getD .non
def packV : Env → St → List V
  | none :: ρ, _ :: σ => .non :: packV ρ σ
  | some _ :: ρ, v :: σ => v.getD .non :: packV ρ σ
  | _, _ => []
section
variable {K : PySem.W.Frag} {μ : List Addr} {H : Hp}
theorem pack_rep : ∀ {ρ : Env} {σ : St}, ERep K μ H ρ σ → RepL K μ H (packD ρ) (packV ρ σ)
  | [], σ, e => by
    cases σ with
    | nil => rfl
    | cons a l => cases e.len
  | o :: ρ, [], e => by cases e.len
  | o :: ρ, v :: σ, e => by
    have t : ERep K μ H ρ σ := ⟨Nat.succ.inj e.len, fun i d h => e.get (i + 1) d h⟩
    cases o with
    | none => exact ⟨.non, packV ρ σ, rfl, rfl, pack_rep t⟩
    | some d =>
      obtain ⟨w, e1, r⟩ := e.get 0 d rfl
      cases e1
      exact ⟨w, packV ρ σ, rfl, r, pack_rep t⟩
theorem unpack_rep : ∀ {ρ : Env} {σ : St}, ρ.length = σ.length → (∀ (i : Nat) (d : D), ρ[i]? = some (some d) → ∃ v, σ[i]? = some (some v)) → RepL K μ H (packD ρ) (packV ρ σ) → ERep K μ H ρ σ
  | [], σ, e, _, _ => ⟨e, fun i d h => by cases h⟩
  | o :: ρ, [], e, _, _ => by cases e
  | o :: ρ, v :: σ, e, hs, r => by
    have key : ∀ {x : D} {y : V} {l : List D} {k : List V}, RepL K μ H (x :: l) (y :: k) → Rep K μ H x y ∧ RepL K μ H l k := fun h => by
      obtain ⟨a, b, e, r1, r2⟩ := h
      cases e
      exact ⟨r1, r2⟩
    cases o with
    | none =>
      obtain ⟨_, r2⟩ := key (show RepL K μ H (.non :: packD ρ) (.non :: packV ρ σ) from r)
      have t := unpack_rep (Nat.succ.inj e) (fun i d h => hs (i + 1) d h) r2
      exact ⟨e, fun i d h => by
        cases i with
        | zero => cases h
        | succ i => exact t.get i d h⟩
    | some d =>
      obtain ⟨w, hw⟩ := hs 0 d rfl
      cases hw
      obtain ⟨r1, r2⟩ := key (show RepL K μ H (d :: packD ρ) (w :: packV ρ σ) from r)
      have t := unpack_rep (Nat.succ.inj e) (fun i d h => hs (i + 1) d h) r2
      exact ⟨e, fun i d' h => by
        cases i with
        | zero => cases h; exact ⟨w, rfl, r1⟩
        | succ i => exact t.get i d' h⟩
end

/-! ### what a lambda does -/
abbrev Th := List C → R D
/-- the named call of what the def got -/
noncomputable def eAct (L : D) (th : Th) : ES := fun ρ m => open Classical in if ρ[0]? = some (some L) then th m else .no
abbrev WNo : WX := fun _ _ _ _ => False
/-- what is told of the lambda's value L -/
def ThOk (K : PySem.W.Frag) (T : List (Addr × Str)) (ds : List D) (vs : List V) (th : Th) (tl : XK → Hp → VK → Prop) : Prop :=
  ∀ (E : XK) (μ : List Addr) (H : Hp) (m : List C) (Q : VK), RepL K μ H ds vs → Sto T K μ H m → Post (Rep K) T K (fun cls d _ H => E cls d H) [] μ H (th m) Q → tl E H Q
abbrev GCx (X : Cx) (Ng : List Str) (x : Str) (sg : Scope) (g : Addr) (cdg : Value) (s : Shared) (H : Hp) : Cx := cxOf C8.CX0 X.prog X.w X.K X.mg X.base Ng x sg g cdg X.A X.stack s H C8.E0
/-- the def x that got a lambda by the name a, its body bg: G is what it makes of it -/
def GivesD (X : Cx) (T : List (Addr × Str)) (Ng : List Str) (x : Str) (sg : Scope) (g : Addr) (cdg : Value) (bg : List Stmt) (a : Str) (G : Th → Th) : Prop :=
  ∀ (f c : Addr) (q : Str) (ds : List D) (vs : List V) (th : Th) (s : Shared) (H : Hp) (μ : List Addr) (m : List C) (Q : VK),
    (∀ (W : WX) (pn : List (Addr × Obj)) (xe : Value → Shared → Prop) (p1 p2 : Pos), Takes ((GCx X Ng x sg g cdg s H).nox.tr pn xe) W → DE ((GCx X Ng x sg g cdg s H).nox.tr pn xe) T W (.Call (.Name a p1) [] [] p2) (eAct (.lam f c q ds vs) th)) →
    Rep X.K μ H (.lam f c q ds vs) (.ref f) → Sto T X.K μ H m → Post (Rep X.K) T X.K WNo [] μ H (G th m) Q →
    ∃ t, PSs (GCx X Ng x sg g cdg s H).nox bg t ∧ t { nx := fun _ H' => Q .non H', rt := Q } (L2.start Ng [.ref f]) H
theorem gives_D {X : Cx} {T : List (Addr × Str)} {Ng : List Str} {x a : Str} {sg : Scope} {g : Addr} {cdg : Value} {bg : List Stmt} {G : Th → Th} (B : D → Th → SS)
    (hG : ∀ L th m, G th m = .no ∨ fnD Ng.length (B L th) [L] m = G th m)
    (hb : ∀ (L : D) (th : Th) (s : Shared) (H : Hp), (∀ (W : WX) (pn : List (Addr × Obj)) (xe : Value → Shared → Prop) (p1 p2 : Pos), Takes ((GCx X Ng x sg g cdg s H).nox.tr pn xe) W → DE ((GCx X Ng x sg g cdg s H).nox.tr pn xe) T W (.Call (.Name a p1) [] [] p2) (eAct L th)) → DSs (GCx X Ng x sg g cdg s H).nox T WNo bg (B L th)) :
    GivesD X T Ng x sg g cdg bg a G := by
  intro f c q ds vs th s H μ m Q act rp sto h
  refine ⟨_, (hb _ th s H act).run, μ, startD Ng.length [.lam f c q ds vs], m, startD_rep ⟨_, [], rfl, rp, rfl⟩, sto, ?_⟩
  rcases hG (.lam f c q ds vs) th m with e | e
  · rw [e] at h; exact h.elim
  · rw [← e] at h
    unfold fnD at h
    cases e : B (.lam f c q ds vs) th (startD Ng.length [.lam f c q ds vs]) m with
    | nx ρ1 m1 => rw [e] at h; exact fun μ1 H1 σ1 x1 s1 e1 => h μ1 H1 .non x1 s1 rfl
    | rt d m1 => rw [e] at h; exact h
    | bk ρ1 m1 => rw [e] at h; exact h.elim
    | ct ρ1 m1 => rw [e] at h; exact h.elim
    | ex c ns vs ρ1 m1 => rw [e] at h; exact fun μ1 H1 σ1 od x1 s1 e1 xr => h μ1 H1 od x1 s1 xr
    | no => rw [e] at h; exact h.elim
/-- x(lambda: body) -/
def eLam (G : Th → Th) (F : ES) : ES := fun ρ m => match G (F ρ) m with
  | .ok d m' => .ok d m'
  | _ => .no
section
variable {X : Cx} {pins : List (Addr × Obj)} {σ : St} {H : Hp} {s : Shared}
open LamX in
/-- a(): the lambda made at s, called in the run of the def that got it; what it lets out is taken at the slots of the moment -/
theorem act_lam {Ng : List Str} {qg : Str} {sg : Scope} {g f c' : Addr} {cdg pm ctv : Value} {params : Arguments} {body : Expr} {scope : Scope} {k : Nat} {a : Str} {pn : List (Addr × Obj)} {xe : Value → Shared → Prop} {W : WX} {tb : XK → TE} {p1 p2 : Pos}
    (I : Inv X pins σ H s) (L : LamS X.env.scope scope) (hf : s.heap.get? f = some (PySem.W.kla_obj "<lambda>" (X.env.qual ++ "<lambda>") params body scope (cloFrom X.env.cells scope.names []) pm c' ctv)) (hfn : H f = none) (hfr : f ∉ frs X.stack)
    (hbind : bindArgs (PySem.W.kla_fn "<lambda>" (X.env.qual ++ "<lambda>") params body scope (cloFrom X.env.cells scope.names []) pm (.ref c') ctv) ⟨[], []⟩ = pure [])
    (tk : Takes ((GCx X Ng qg sg g cdg s H).nox.tr pn xe) W) (hr : Room (k + 1) (X.A.deeper (envOfC qg sg s.heap.objs.size g cdg)))
    (hbody : ∀ (A : Around) (outer : List PySem.Env) (s : Shared) (H : Hp) (E : XK), Room k (A.deeper (lamEnv X scope s.heap.objs.size f c')) → PE (lamCx X A outer s H E scope f c') body (tb E))
    (hN : Ng[0]? = some a) (hv : Vis sg a) (hd : (a == ("__debug__" : Str)) = false) (hcd : (a == ("__classdict__" : Str)) = false) :
    PE ((GCx X Ng qg sg g cdg s H).nox.tr pn xe) (.Call (.Name a p1) [] [] p2)
      (fun σZ HZ Q => σZ[0]? = some (some (.ref f)) ∧ HZ c' = some (CodeO c' (X.env.qual ++ "<lambda>")) ∧ tb (WE W σZ) σ HZ Q) := by
  refine ⟨fun pinsZ sZ σZ HZ Q IZ ⟨h1, h2, h3⟩ => wpAny_Call_Name_kw (thn ((pe_var (pos := p1) (i := 0) hN hv hd hcd).run pinsZ sZ σZ HZ (fun v H1 => v = .ref f ∧ H1 = HZ) IZ ⟨.ref f, h1, rfl, rfl⟩) fun u s1 ⟨v, H1, I1, r1, ev, eH⟩ => ?_)⟩
  subst ev
  rw [eH] at I1
  obtain rfl : u = Value.ref f := r1
  have here : s1.heap.get? f = some (PySem.W.kla_obj "<lambda>" (X.env.qual ++ "<lambda>") params body scope (cloFrom X.env.cells scope.names []) pm c' ctv) := I1.base.keep f _ hf hfn hfr (fun z => nomatch (show f ∈ ([] : List Addr) from z))
  have un : Un (frs X.stack) [] H HZ s.heap s1.heap := I1.base
  obtain ⟨⟨oc, fs, t, g1, g2, g3⟩, _, _⟩ := I1.hok c' _ h2
  refine PySem.W.callWith_F0 ⟨_, _, _, _, here⟩ ?_
  have rc : codeAny (model X.prog X.w) (X.A.deeper (envOfC qg sg s.heap.objs.size g cdg)) (.call (.ref f) ⟨[], []⟩) (CR (L2.CX X.prog X.w) (envOfC qg sg s.heap.objs.size g cdg :: X.stack) X.prog X.w HZ s1 Q (WE W σZ)) s1 := by
    refine PySem.W.kla_callFunE hr.depth here rfl L.co L.gen rfl ⟨c', oc, fs, t, rfl, g1, g2, g3⟩ ?_
    rw [hbind]
    refine wpAny_pure (wpAny_newFunctionEnv (fun y hy => (L.own y hy).2) (fun y hy => absurd hy (by simp)) (fun h₁ hns hsb => ⟨I1.nolimit.fresh _ hsb, ?_⟩) L.kind)
    show codeAny _ _ (.expr body (lamEnv X scope s1.heap.objs.size f c')) _ _
    have J := lam_start2 (E := WE W σZ) (f := f) (c' := c') (tk := s1.toks + ([] : List (Str × Value)).length) I L I1.env0 hr.hd un hns fun b o e => hsb.extBut b o (Nat.ne_of_lt (Heap.lt_size e)) (Heap.get?_push_of_some _ e)
    exact PySem.W.kla_codeExpr (wpAny_mono ((hbody _ _ s1 HZ _ (hr.deeper _)).run [] _ _ HZ Q J h3) (fun v s' ⟨w', H', J', rv, q⟩ => ⟨w', H', J'.os, J'.bare, J'.base, J'.hok, rv, q⟩) fun e s' hq => hq)
  refine wpAny_call (codeAny_mono rc fun r s' hq => ?_)
  cases r with
  | error e => exact passAt tk σZ pinsZ HZ s1 e s' I1 hq
  | ok fl =>
    cases fl with
    | ret u => exact I1.after hq
    | next => exact False.elim hq
    | brk => exact False.elim hq
    | cont => exact False.elim hq
end
section
variable {X : Cx} {T : List (Addr × Str)} {W : WX}
open LamX in
theorem de_lam {G : Th → Th} {F : ES} {x a : Str} {g c P : Addr} {k : Nat} {pg : Arguments} {bg : List Stmt} {sg : Scope} {dV kV doc pm cdv ct oc : Value} {an od : Option Addr} {osl : Array (Option Value)} {Ng : List Str}
    {params : Arguments} {body : Expr} {scope : Scope} {p lpos pos : Pos} (hm : X.mg x = some (.ref g)) (hk : PySem.W.keepIn X.K (.ref g) = true)
    (lk : X.K.lookup g = some ⟨oc, od, .func (PySem.W.fnOf x x pg bg sg dV kV doc pm an cdv ct), osl⟩) (hcg : PySem.W.codeIn X.K cdv x = true) (hb : L2.Binds X.K (PySem.W.fnOf x x pg bg sg dV kV doc pm an cdv ct) [a] []) (Sg : FnScope Ng [a] sg)
    (hr : Room (k + 2) X.A)
    (hG : GivesD X T Ng x sg g cdv bg a G)
    (TB : TabB X.base X.mg c P) (hcode : X.env.code = .ref c) (hmT : (P, X.env.qual ++ "<lambda>") ∈ T) (hu : ∀ p ∈ T, p.1 = P → p.2 = X.env.qual ++ "<lambda>")
    (hbody : ∀ (A : Around) (outer : List PySem.Env) (s : Shared) (H : Hp) (E : XK) (f c' : Addr), Room k (A.deeper (lamEnv X scope s.heap.objs.size f c')) → DE (lamCx X A outer s H E scope f c') T (fun cls d _ H => E cls d H) body F)
    (hNg : Ng[0]? = some a := by rfl) (hva : Vis sg a := by first | exact Or.inl rfl | exact Or.inr (Or.inl rfl)) (L : LamS X.env.scope scope := by exact LamX.lamS_by rfl) (hdef : defaultsOf params X.env = ([], []) := by rfl)
    (hbind : ∀ (q : Str) (cl : List (Str × Addr)) (pm cv ctv : Value), bindArgs (PySem.W.kla_fn "<lambda>" q params body scope cl pm cv ctv) ⟨[], []⟩ = pure [] := by intros; rfl)
    (hg : Gl X x := by rfl) (hdb : (x == ("__debug__" : Str)) = false := by decide) (hd : (a == ("__debug__" : Str)) = false := by decide) (hcd : (a == ("__classdict__" : Str)) = false := by decide) :
    DE X T W (.Call (.Name x p) [.Lambda params body scope lpos] [] pos) (eLam G F) := by
  refine ⟨⟨fun pins s σ H Q I ⟨μ, ρ, m, er, sto, h⟩ => ?_⟩⟩
  refine wpAny_Call_Name_kw (ld_glob I hg hm ?_ hdb)
  refine PySem.W.callWith_K (h₀ := X.base) I.ok.mod.kin hk ?_ (by rfl) (by rfl)
  show wpAny _ _ (spliced ((false, eval (.Lambda params body scope lpos) X.env) :: backTo pos (starEach [] X.env))) _ _ s
  refine Calls.spliced_cons (lam_make2 I TB hcode hmT hu sto.tab hdef (L.has I.ok) fun f c' pm' ctv H1 s' I1 eN T1 hf hfn hfr hco => ?_)
  refine Calls.spliced_nil ⟨I1.kIn, ?_⟩
  have kp : Kept H H1 := ⟨fun a xs e => eN a _ e (fun ps z => by cases z), fun a o u e => eN a _ e (fun ps z => by cases z), fun a q e => eN a _ e (codeO_ne)⟩
  have x1 : Ext μ H μ H1 := ⟨List.prefix_refl _, kp, fun b o e _ => by
    by_cases hb : ∃ ps, o = .tbl ps
    · exact .inr hb
    · exact .inl (eN b o e fun ps z => hb ⟨ps, z⟩), fun b hb hn => absurd hb hn⟩
  have s1 : Sto T X.K μ H1 m := ⟨sto.len, sto.nd, fun n d b e1 e2 => ?_, T1⟩
  · have e1' := er.ext x1
    have rp : Rep X.K μ H1 (.lam f c' (X.env.qual ++ "<lambda>") (packD ρ) (packV ρ σ)) (.ref f) := ⟨rfl, hco, pack_rep e1'⟩
    have hpo : Post (Rep X.K) T X.K WNo [] μ H1 (G (F ρ) m) Q := by
      unfold eLam at h
      cases e : G (F ρ) m with
      | ok d m' => rw [e] at h; exact Post.ext (rp := Rep X.K) (W := WNo) (σ := []) (r := R.ok d m') x1 h
      | exc c ns vs m' => rw [e] at h; exact h.elim
      | no => rw [e] at h; exact h.elim
    have rc : codeAny (model X.prog X.w) X.A (.call (.ref g) ⟨[.ref f], []⟩) (CR C8.CX0 X.stack X.prog X.w H1 s' Q C8.E0) s' := by
      refine run_ofS (N := Ng) (ps := [a]) (us := [.ref f]) (vs := [.ref f]) lk hcg Sg hr I1.env0 (hb s' [.ref f] I1.kIn rfl) (.cons rfl .nil) rfl fun hr' => ?_
      have act : ∀ (W : WX) (pn : List (Addr × Obj)) (xe : Value → Shared → Prop) (p1 p2 : Pos), Takes ((GCx X Ng x sg g cdv s' H1).nox.tr pn xe) W → DE ((GCx X Ng x sg g cdv s' H1).nox.tr pn xe) T W (.Call (.Name a p1) [] [] p2) (eAct (.lam f c' (X.env.qual ++ "<lambda>") (packD ρ) (packV ρ σ)) (F ρ)) := by
        intro W pn xe p1 p2 tk
        refine ⟨(act_lam (tb := fun E => tG (Rep X.K) T X.K (fun cls d _ H => E cls d H) F) I1 L hf hfn hfr (hbind _ _ _ _ _) tk hr' (fun A outer s H E hr2 => (hbody A outer s H E f c' hr2).run) hNg hva hd hcd).weak fun σZ HZ Q' ⟨μZ, ρZ, mZ, eZ, sZ, hZ⟩ => ?_⟩
        unfold eAct at hZ
        split at hZ
        · rename_i hL
          obtain ⟨v, hv, rv⟩ := eZ.get 0 _ hL
          obtain ⟨rfl, hc, rds⟩ := rv
          refine ⟨hv, hc, μZ, ρ, mZ, unpack_rep er.len (fun i d e => let ⟨v, e1, _⟩ := er.get i d e; ⟨v, e1⟩) rds, sZ, ?_⟩
          cases e : F ρ mZ with
          | ok d m' => rw [e] at hZ; exact hZ
          | exc c ns vs m' => rw [e] at hZ; exact hZ
          | no => rw [e] at hZ; exact hZ.elim
        · exact hZ.elim
      obtain ⟨t', ht', hq'⟩ := hG f c' (X.env.qual ++ "<lambda>") (packD ρ) (packV ρ σ) (F ρ) s' H1 μ m Q act rp s1 hpo
      exact ⟨t', ht'.nox, hq'⟩
    refine wpAny_call (codeAny_mono rc fun r s2 hq => ?_)
    cases r with
    | error e => exact (show False from hq).elim
    | ok fl =>
      cases fl with
      | ret u => exact I1.after hq
      | next => exact False.elim hq
      | brk => exact False.elim hq
      | cont => exact False.elim hq
  · refine (sto.rep n d b e1 e2).keep kp (List.prefix_refl _) fun o e n => eN b o e n
end

/-! ### try: .. / except x as n: .. -/
def RS.unset (i : Nat) (r : RS) : RS :=
  match r with
  | .nx ρ m => .nx (ρ.set i none) m
  | .bk ρ m => .bk (ρ.set i none) m
  | .ct ρ m => .ct (ρ.set i none) m
  | .rt d m => .rt d m
  | _ => .no
/-- a result that does not hang on the address -/
noncomputable def agree (f : Addr → RS) : RS := open Classical in if ∀ a, f a = f 0 then f 0 else .no
theorem agree_of {f : Addr → RS} {r : RS} (h : ∀ a, f a = r) : agree f = r := by
  unfold agree
  rw [if_pos (fun a => (h a).trans (h 0).symm)]
  exact h 0
theorem agree_at {f : Addr → RS} (h : agree f ≠ .no) (a : Addr) : agree f = f a := by
  unfold agree at h ⊢
  split at h
  · rename_i e
    rw [if_pos e, e a]
  · exact absurd rfl h
noncomputable def sTryAs (B : SS) (i : Nat) (ok : Addr → Option Bool) (S : Addr → Addr → SS) : SS := fun ρ m => match B ρ m with
  | .ex c ns vs ρ1 m1 => (match ok c, ns with
    | some true, [] => agree fun a => (S a c (ρ1.set i (some (.ref a))) m1).unset i
    | some false, ns => .ex c ns vs ρ1 m1
    | _, _ => .no)
  | r => r
section
variable {X : Cx} {T : List (Addr × Str)} {W : WX}
theorem ds_tryAs {x n : Str} {C : Addr} {i : Nat} {body suite : List Stmt} {b₀ : Stmt} {np pos pos' : Pos} {B : SS} {S : Addr → Addr → SS} (hN : X.N.Nodup) (hm : X.mg x = some (.ref C)) (tk : Takes X W)
    (hb : ∀ (W : WX) (pn : List (Addr × Obj)) (xe : Value → Shared → Prop), Takes (X.tr pn xe) W → DSs (X.tr pn xe) T W body B)
    (hS : ∀ (a : Addr) (oe : Obj) (c : Addr) (pn : List (Addr × Obj)), Zc (.ref c) none oe → (∃ vs, oe.data = .fields vs) → DSs (X.suite a ((a, oe) :: pn)) T WNo (b₀ :: suite) (S a c))
    (hs : X.stack = X.env :: X.outer := by rfl) (hf : X.env.frame = some X.env.locals := by rfl) (hi : X.N[i]? = some n := by rfl) (hln : X.env.kindOf n = some .local := by rfl) (hg : Gl X x := by rfl) (hd : (x == ("__debug__" : Str)) = false := by decide) :
    DS X T W (.Try body [.ExceptHandler (some (.Name x np)) (some n) (b₀ :: suite) pos'] [] [] pos) (sTryAs B i (fun c => PySem.W.exmOne X.K (.ref c) (.ref C)) S) := by
  refine ⟨(ps_try_as hs hf hN hi hln ⟨hg, hd, .inl hm⟩ tk (tb := fun W => tS X.K T W B) (ts := fun a cls d => fun D σ H => ∃ c, cls = .ref c ∧ d = none ∧ tS X.K T WNo (S a c) D σ H) (fun W pn xe tk' _ => (hb W pn xe tk').run) (fun a oe cls d pn hz hv => ?_)).weak fun Z σ H ⟨μ, ρ, m, er, s, q⟩ => ?_⟩
  · refine ⟨fun pins s σ H D I ⟨c, e1, e2, h⟩ => ?_⟩
    subst e1 e2
    exact (hS a oe c pn hz hv).run.run pins s σ H D I h
  · refine ⟨μ, ρ, m, er, s, ?_⟩
    unfold sTryAs at q
    cases e : B ρ m with
    | nx ρ1 m1 => rw [e] at q; exact q
    | rt d m1 => rw [e] at q; exact q
    | bk ρ1 m1 => rw [e] at q; exact q
    | ct ρ1 m1 => rw [e] at q; exact q
    | no => rw [e] at q; exact q.elim
    | ex c ns vs ρ1 m1 =>
      rw [e] at q
      intro μ1 H1 σ1 od x1 s1 e1 xr
      dsimp only at q
      split at q
      · rename_i hk
        refine ⟨true, hk, fun _ a ha => ?_, fun z => by cases z⟩
        rcases xr with ⟨_, _, rfl⟩ | ⟨n1, _⟩
        · refine ⟨c, rfl, rfl, μ1, _, m1, e1.set (show Rep X.K μ1 H1 (.ref a) (.ref a) from rfl), s1, ?_⟩
          have ne : (agree fun a => (S a c (ρ1.set i (some (.ref a))) m1).unset i) ≠ .no := fun z => by rw [z] at q; exact q.elim
          rw [agree_at ne a] at q
          cases e2 : S a c (ρ1.set i (some (.ref a))) m1 with
          | nx ρ2 m2 => rw [e2] at q; exact fun μ2 H2 σ2 x2 s2 e2 => q μ2 H2 _ (x1.trans x2) s2 e2.unset
          | rt d m2 => rw [e2] at q; exact fun μ2 H2 v x2 s2 r2 => q μ2 H2 v (x1.trans x2) s2 r2
          | bk ρ2 m2 => rw [e2] at q; exact fun μ2 H2 σ2 x2 s2 e2 => q μ2 H2 _ (x1.trans x2) s2 e2.unset
          | ct ρ2 m2 => rw [e2] at q; exact fun μ2 H2 σ2 x2 s2 e2 => q μ2 H2 _ (x1.trans x2) s2 e2.unset
          | ex c' ns' vs' ρ2 m2 => rw [e2] at q; exact q.elim
          | no => rw [e2] at q; exact q.elim
        · exact absurd rfl n1
      · rename_i hk
        exact ⟨false, hk, fun z => (by cases z), fun _ => q μ1 H1 σ1 od x1 s1 e1 xr⟩
      · exact q.elim
/-- an own class by its name -/
theorem de_cls {x : Str} {c : Addr} {pos : Pos} (h : X.mg x = some (.ref c)) (hg : Gl X x := by rfl) (hd : (x == ("__debug__" : Str)) = false := by decide) : DE X T W (.Name x pos) (eC (.ref c)) :=
  de_c (v := V.ref c) (pe_glob hg h rfl hd) fun _ _ => rfl
end
/-! ### isinstance of the error at hand -/
def clsV : D → Option Value
  | .ref k => some (.ref k)
  | .ty n => some (.type n)
  | _ => none
noncomputable def isED (K : PySem.W.Frag) (a c : Addr) : FS := fun ds m => open Classical in match ds with
  | [.ref a', k] => if a' = a ∧ ExcC K c then (match clsV k with
    | some cv => (match PySem.W.kitOne K (.ref c) cv with
      | some b => .ok (.bl b) m
      | none => .no)
    | none => .no) else .no
  | _ => .no
section
variable {X : Cx} {T : List (Addr × Str)}
theorem cr_isE {a c : Addr} {oe : Obj} {pn : List (Addr × Obj)} (hz : Zc (.ref c) none oe) (hf : ∃ vs, oe.data = .fields vs) : CallR (X.suite a ((a, oe) :: pn)) (.builtin "isinstance") (fun xs H Q => ExcC X.K c ∧ rIsE X.K c a xs H Q) :=
  fun pins s σ H xs us Q I r ⟨hE, h⟩ => call_isE hE hz hf pins s σ H xs us Q I r h
theorem isED_ok {Y : Cx} {a c : Addr} : ArD Y T (isED Y.K a c) (fun xs H Q => ExcC Y.K c ∧ rIsE Y.K c a xs H Q) := by
  intro W σ μ H m ds xs Q S r q
  unfold isED at q
  split at q
  · obtain ⟨v, u, rfl, r1, r2⟩ := repL2 r
    split at q
    · rename_i hc
      obtain ⟨rfl, hE⟩ := hc
      cases r1
      split at q
      · rename_i cv hk
        split at q
        · rename_i b hb
          refine ⟨hE, u, cv, b, rfl, ?_, hb, post_here (rp := Rep Y.K) S (show Rep Y.K μ H (.bl b) (.bl b) from rfl) q⟩
          unfold clsV at hk
          split at hk
          · cases hk; cases r2; exact fun u h => h
          · cases hk; cases r2; exact fun u h => h
          · cases hk
        · exact q.elim
      · exact q.elim
    · exact q.elim
  · exact q.elim
end
end DL


/-! DLl: sorted of a dict's items, of a list of ints, of a dict. -/
namespace DL
open PySem PySem.Spec L2
open PyProof.Rows hiding St

/-! ### tuples just made are known from now on -/
theorem takeF {X : Cx} {pins : List (Addr × Obj)} {σ : St} {H0 : Hp} {s : Shared} {h' : Heap} {tk : Nat} {P : Addr → Obj → List V → Prop} (I0 : Inv X pins σ H0 s) : ∀ (L : List Addr) (H1 : Hp), Inv X pins σ H1 { s with heap := h', toks := tk } → L.Nodup →
    (∀ a ∈ L, s.heap.objs.size ≤ a ∧ H1 a = none ∧ ∃ o vs, P a o vs ∧ ∀ H2, ObjOk X.prog X.w H2 h' a (.frz o (.tup vs))) →
    ∃ H2, Inv X pins σ H2 { s with heap := h', toks := tk } ∧ (∀ b o, H1 b = some o → H2 b = some o) ∧ ∀ a ∈ L, ∃ o vs, P a o vs ∧ H2 a = some (.frz o (.tup vs))
  | [], H1, I1, _, _ => ⟨H1, I1, fun _ _ e => e, fun _ h => nomatch h⟩
  | a :: L, H1, I1, hn, h => by
    obtain ⟨hb, hnone, o, vs, hP, ok⟩ := h a List.mem_cons_self
    rw [List.nodup_cons] at hn
    obtain ⟨H2, I3, g, q⟩ := takeF I0 L _ (I1.take (h' := h') (t' := tk) (fun b ob _ e => e) (I0.fpOk hb hnone) (ok _)) hn.2 fun c hc => by
      obtain ⟨c1, c2, c3⟩ := h c (List.mem_cons_of_mem _ hc)
      exact ⟨c1, by rw [upd_ne (fun z => hn.1 (by rw [← z]; exact hc))]; exact c2, c3⟩
    refine ⟨H2, I3, fun b u e => g b u (by rw [upd_ne (ne_of_none e hnone)]; exact e), fun c hc => ?_⟩
    rcases List.mem_cons.mp hc with rfl | hc
    · exact ⟨o, vs, hP, g _ _ upd_same⟩
    · exact q c hc

/-! ### pairs of ints -/
def pairLe (p q : Int × Int) : Bool := !SrtO.lexB q p
theorem pairLe_trans (a b c : Int × Int) (h1 : pairLe a b = true) (h2 : pairLe b c = true) : pairLe a c = true := by
  unfold pairLe at *
  rw [Bool.not_eq_true'] at *
  have a1 := SrtO.lexB_no.mp h1
  have a2 := SrtO.lexB_no.mp h2
  refine SrtO.lexB_no.mpr ?_
  omega
theorem pairLe_total (a b : Int × Int) : (pairLe a b || pairLe b a) = true := by
  cases h : pairLe a b
  · unfold pairLe at *
    rw [Bool.not_eq_false'] at h
    have a1 := SrtO.lexB_iff.mp h
    rw [Bool.false_or, Bool.not_eq_true']
    refine SrtO.lexB_no.mpr ?_
    omega
  · rfl
theorem pairLe_anti {a b : Int × Int} (h1 : pairLe a b = true) (h2 : pairLe b a = true) : a = b := by
  unfold pairLe at *
  rw [Bool.not_eq_true'] at *
  have a1 := SrtO.lexB_no.mp h1
  have a2 := SrtO.lexB_no.mp h2
  obtain ⟨a, b⟩ := a
  rename_i y
  obtain ⟨c, d⟩ := y
  simp only at a1 a2
  have : a = c := by omega
  have : b = d := by omega
  subst_vars
  rfl
def isort (l : List (Int × Int)) : List (Int × Int) := l.mergeSort pairLe
theorem isort_uniq {l zs : List (Int × Int)} (p : zs.Perm l) (s : zs.Pairwise fun a b => pairLe a b = true) : zs = isort l :=
  List.Perm.eq_of_pairwise (le := fun a b => pairLe a b = true) (fun a b _ _ h1 h2 => pairLe_anti h1 h2) s (List.pairwise_mergeSort pairLe_trans pairLe_total l) (p.trans (List.mergeSort_perm l pairLe).symm)

/-! ### o.items(), of ints -/
def rItemsK : V → List V → Hp → VK → Prop := fun x xs H Q => ∃ (a : Addr) (kvs : List (Key × V)), x = .ref a ∧ xs = [] ∧ Rd H a (.dK kvs) ∧ ∀ p, H p = none → Q (.ref p) (upd H p (L2.DX.itemsO p a))
section
variable {X : Cx}
theorem mt_itemsK : MtR X "dict.items" rItemsK := by
  intro pins s σ H x xs v us Q I rx rxs h
  obtain ⟨a, kvs, rfl, rfl, ha, q⟩ := h
  cases rx
  cases rxs
  obtain ⟨z, lo, vs, rel, dd⟩ := dk_rd I.hok ha
  obtain ⟨es, ep, ⟨o, h1, h2, h3⟩, _⟩ := PySem.Heap.DictOf.raw dd
  exact DT.callItems (es := es) (ep := ep) lo ⟨o, h1, h2, h3⟩ ⟨.ref _, _, I.laid (t' := s.toks) (fun b u e => Heap.get?_push_of_some _ e) (Nat.le_refl _) (L2.DX.itemsO_ok (Heap.get?_push_size _ rfl)), rfl, q _ (I.hok.fresh (Nat.le_refl _))⟩
def pairV (z : Int × Int) : Key × V := (.inl z.1, .int z.2)
def rSortItK : List V → Hp → VK → Prop := fun xs H Q => ∃ (p a : Addr) (ks : List (Int × Int)), xs = [.ref p] ∧ H p = some (L2.DX.itemsO p a) ∧ Rd H a (.dK (ks.map pairV)) ∧
  ∀ (H' : Hp) (l : Addr) (bs : List Addr), H l = none → (∀ b o, H b = some o → H' b = some o) → H' l = some (.lst (bs.map V.ref)) → bs.length = (isort ks).length →
    (∀ (j : Nat) (b : Addr) (z : Int × Int), bs[j]? = some b → (isort ks)[j]? = some z → ∃ o, H' b = some (.frz o (.tup [.int z.1, .int z.2])) ∧ o.dict = none) → Q (.ref l) H'
/-- the pair behind an address -/
def pk (l : List (Addr × (Int × Int))) : Value → Int × Int
  | .ref b => (l.lookup b).getD (0, 0)
  | _ => (0, 0)
theorem lookup_zip : ∀ {as : List Addr} {ks : List (Int × Int)} {j : Nat} {b : Addr} {z : Int × Int}, as.Nodup → as[j]? = some b → ks[j]? = some z → (as.zip ks).lookup b = some z
  | [], _, _, _, _, _, h, _ => by simp at h
  | _ :: _, [], _, _, _, _, _, h => by simp at h
  | a :: as, k :: ks, 0, b, z, _, h1, h2 => by
    simp at h1 h2
    subst h1 h2
    simp [List.lookup]
  | a :: as, k :: ks, j + 1, b, z, hn, h1, h2 => by
    rw [List.nodup_cons] at hn
    have ne : (b == a) = false := by
      refine beq_eq_false_iff_ne.mpr fun e => hn.1 ?_
      subst e
      exact List.mem_of_getElem? (show as[j]? = some b by simpa using h1)
    rw [List.zip_cons_cons, List.lookup, ne]
    exact lookup_zip hn.2 (by simpa using h1) (by simpa using h2)
theorem cr_sortItK (hc : X.calm = true) : CallR X (.builtin "sorted") rSortItK := by
  intro pins s σ H xs us Q I r h
  obtain ⟨p, a, ks, rfl, hp, ha, q⟩ := h
  obtain rfl := Vals.ref1 r
  have view : s.heap.IsItemsView p a := (show ObjOk X.prog X.w H s.heap p (L2.DX.itemsO p a) from I.hok p _ hp).1
  obtain ⟨z, lo, vs, rel, dd⟩ := dk_rd I.hok ha
  obtain ⟨es, ep, ⟨o, e1, e2, e3⟩, hsz, hent⟩ := PySem.Heap.DictOf.raw dd
  have hl : vs.length = ks.length := by
    have := Paired.length rel
    rw [List.length_map] at this
    exact this.symm
  rw [List.length_map] at z
  refine DT.sortedI (es := es) (ep := ep) (I.ok.hd hc) view ⟨o, e1, e2, e3⟩ (by omega) fun h' tk as hk hlt hal hG => ?_
  have lak : as.length = ks.length := by omega
  have nd : as.Nodup := hG.rise.imp fun h => Nat.ne_of_lt h
  -- the pair at an address
  have at_ : ∀ (j : Nat) (b : Addr), as[j]? = some b → ∃ z t u, ks[j]? = some z ∧ h'.get? b = some { cls := .type "tuple", data := .seq #[Value.int z.1 t, Value.int z.2 u] } := by
    intro j b hj
    obtain ⟨en, he, hg⟩ := hG.pairs j b hj
    obtain ⟨hi, ei⟩ := Array.getElem?_eq_some_iff.mp he
    have hjv : j < vs.length := by omega
    obtain ⟨hkey, hval⟩ := hent j hi vs[j].1 vs[j].2 (List.getElem?_eq_getElem hjv)
    obtain ⟨y, hy, r1, r2⟩ := L2.DX.pget rel (List.getElem?_eq_getElem hjv)
    rw [List.getElem?_map] at hy
    cases hkj : ks[j]? with
    | none => rw [hkj] at hy; cases hy
    | some z =>
      rw [hkj] at hy
      cases hy
      rw [← r1] at hkey
      rw [← hval] at r2
      have hkey : keyIs (Sum.inl z.1) es[j].key = true := hkey
      rcases keyIs_shape hkey with ⟨i, t, g1, g2⟩ | ⟨x, t, g1, _⟩
      · cases g1
        obtain ⟨u, g3⟩ := r2
        rw [ei] at g2 g3
        rw [g2, g3] at hg
        exact ⟨z, t, u, rfl, hg⟩
      · cases g1
  have hob : (h'.push { cls := .type "list", data := .seq (as.map Value.ref).toArray }).get? h'.objs.size = some (seqObj "list" (as.map Value.ref).toArray 0) := Heap.get?_push_size _ rfl
  have ka : ∀ b o, h'.get? b = some o → (h'.push { cls := .type "list", data := .seq (as.map Value.ref).toArray }).get? b = some o := fun b o e => Heap.get?_push_of_some _ e
  have ne0 : ∀ b o, h'.get? b = some o → b ≠ h'.objs.size := fun b o e => Nat.ne_of_lt (Heap.lt_size e)
  generalize h'.push { cls := .type "list", data := .seq (as.map Value.ref).toArray } = h2 at hob ka ⊢
  have pkey : ∀ (j : Nat) (b : Addr) (z : Int × Int), as[j]? = some b → ks[j]? = some z → pk (as.zip ks) (.ref b) = z := fun j b z h1 h2 => by
    show ((as.zip ks).lookup b).getD (0, 0) = z
    rw [lookup_zip nd h1 h2]
    rfl
  refine wpAny_call_entry PyProof.Rows.slot_list_sort ⟨_, hob, rfl⟩ PyProof.Rows.entry_list_sort
    (SrtO.list_sort_ord (s := { s with heap := h2, toks := tk }) (SrtO.swo_lex (pk (as.zip ks))) hob (by rw [List.length_map]; omega) (fun l2 => SrtO.pairs_sortableO (by omega) (fun v hv => ?_) fun o e => ?_) fun out o1 o2 => ⟨.none, rfl, ?_⟩) (PyProof.Rows.args_list_sort _)
  · obtain ⟨b, hb, rfl⟩ := List.mem_map.mp hv
    obtain ⟨j, hj⟩ := List.mem_iff_getElem?.mp hb
    obtain ⟨z, t, u, hz, hg⟩ := at_ j b hj
    rw [pkey j b z hj hz]
    exact ⟨b, _, t, u, 0, rfl, ka _ _ hg, rfl, rfl⟩
  · have e' := e.symm.trans hob
    cases e'
    intro c
    exact absurd (Value.type.inj c) (by decide)
  · show EP X pins σ Q (.ref h'.objs.size) { s with heap := sortedHeap h2 h'.objs.size (as.map Value.ref) out.toArray, toks := tk }
    have kF : ∀ b o, b ≠ h'.objs.size → h2.get? b = some o → (sortedHeap h2 h'.objs.size (as.map Value.ref) out.toArray).get? b = some o := fun b o hb e => (PyProof.Rows.sortedHeap_old hb (Heap.lt_size e)).trans e
    have kS : ∀ b o, s.heap.get? b = some o → (sortedHeap h2 h'.objs.size (as.map Value.ref) out.toArray).get? b = some o := fun b o e => kF b o (ne0 _ _ (hk b o e)) (ka _ _ (hk b o e))
    obtain ⟨eF, heF⟩ := PyProof.Rows.sortedHeap_at (vs := as.map Value.ref) (out := out.toArray) hob
    -- the addresses in their order
    obtain ⟨bs, rfl⟩ : ∃ bs : List Addr, out = bs.map Value.ref := by
      have all : ∀ v ∈ out, ∃ b, v = Value.ref b := fun v hv => by
        obtain ⟨b, _, e⟩ := List.mem_map.mp (o2.perm.mem_iff.mp hv)
        exact ⟨b, e.symm⟩
      clear o1 o2 eF heF kF kS
      induction out with
      | nil => exact ⟨[], rfl⟩
      | cons v l ih =>
        obtain ⟨b, rfl⟩ := all v List.mem_cons_self
        obtain ⟨bs, rfl⟩ := ih fun u hu => all u (List.mem_cons_of_mem _ hu)
        exact ⟨b :: bs, rfl⟩
    have inj : ∀ {l k : List Addr}, (l.map Value.ref).Perm (k.map Value.ref) → l.Perm k := fun {l k} h => by
      have := h.map fun v => match v with | Value.ref b => b | _ => 0
      simpa [List.map_map, Function.comp_def] using this
    have pb : bs.Perm as := inj o2.perm
    have hz : (bs.map fun b => pk (as.zip ks) (.ref b)) = isort ks := by
      refine isort_uniq ?_ ?_
      · refine (pb.map _).trans ?_
        have e : (as.map fun b => pk (as.zip ks) (.ref b)) = ks := by
          refine List.ext_getElem? fun j => ?_
          rw [List.getElem?_map]
          cases hj : as[j]? with
          | none => rw [List.getElem?_eq_none_iff] at hj; rw [Option.map_none, eq_comm, List.getElem?_eq_none_iff]; omega
          | some b =>
            obtain ⟨z, _, _, hz, _⟩ := at_ j b hj
            rw [Option.map_some, pkey j b z hj hz, hz]
        rw [e]
      · rw [List.pairwise_map]
        have := List.pairwise_map.mp o1
        exact this.imp fun {x y} h => by unfold pairLe; rw [Bool.not_eq_true']; exact h
    have I1 : Inv X pins σ H { s with heap := sortedHeap h2 h'.objs.size (as.map Value.ref) (bs.map Value.ref).toArray, toks := tk } := I.kept (t' := tk) kS
    have hn0 : H h'.objs.size = none := I.hok.fresh (Nat.le_of_lt hlt)
    have blen : bs.length = ks.length := by rw [pb.length_eq, lak]
    have rv : Vals (bs.map V.ref) (bs.map Value.ref) := vals_maps (fun b : Addr => V.ref b) (fun b => Value.ref b) bs fun _ _ => rfl
    have I2 := I1.take (h' := sortedHeap h2 h'.objs.size (as.map Value.ref) (bs.map Value.ref).toArray) (t' := tk) (o := .lst (bs.map V.ref)) (fun b ob _ e => e) (I.fpOk (Nat.le_of_lt hlt) hn0) ⟨by rw [List.length_map]; omega, _, eF, rv, heF⟩
    obtain ⟨H2, I3, g, qt⟩ := takeF (P := fun b o vs => ∃ (j : Nat) (z : Int × Int), as[j]? = some b ∧ ks[j]? = some z ∧ vs = [.int z.1, .int z.2] ∧ o.dict = none) I as _ I2 nd fun b hb => by
      obtain ⟨j, hj⟩ := List.mem_iff_getElem?.mp hb
      obtain ⟨z, t, u, hz, hg⟩ := at_ j b hj
      have hb0 : s.heap.objs.size ≤ b := Nat.le_of_lt (hG.above b hb)
      have hb1 := kF b _ (ne0 _ _ hg) (ka _ _ hg)
      exact ⟨hb0, by rw [upd_ne (ne0 _ _ hg)]; exact I.hok.fresh hb0, _, _, ⟨j, z, hj, hz, rfl, rfl⟩, fun H2 => ⟨hb1, by show 2 ≤ sizeLine; decide, _, .cons ⟨t, rfl⟩ (.cons ⟨u, rfl⟩ .nil), _, hb1, rfl, _, rfl⟩⟩
    refine ⟨.ref h'.objs.size, H2, I3, rfl, q H2 h'.objs.size bs hn0 (fun b u e => g b u (by rw [upd_ne (ne_of_none e hn0)]; exact e)) (g _ _ upd_same) (by rw [← hz, List.length_map]) fun j b z h1 h2 => ?_⟩
    have hb : b ∈ as := pb.mem_iff.mp (List.mem_of_getElem? h1)
    obtain ⟨o, vs, ⟨i, y, i1, i2, rfl, hd⟩, e⟩ := qt b hb
    rw [← hz, List.getElem?_map, h1, Option.map_some, pkey i b y i1 i2] at h2
    cases h2
    exact ⟨o, e, hd⟩
end

/-! ### sorted, as the trees have it -/
def intPairs : List Key → List D → Option (List (Int × Int))
  | [], [] => some []
  | .inl k :: ks, .int v :: vs => (intPairs ks vs).map ((k, v) :: ·)
  | _, _ => none
theorem intPairs_rep {K : PySem.W.Frag} {μ : List Addr} {H : Hp} : ∀ {ks : List Key} {vs : List D} {l : List (Int × Int)} {xs : List V}, RepL K μ H vs xs → intPairs ks vs = some l → ks.zip xs = l.map pairV
  | [], [], _, _, r, e => by cases e; cases r; rfl
  | [], _ :: _, _, _, _, e => by simp [intPairs] at e
  | _ :: _, [], _, _, _, e => by simp [intPairs] at e
  | .inr _ :: _, _ :: _, _, _, _, e => by simp [intPairs] at e
  | .inl k :: ks, d :: vs, l, _, r, e => by
    cases d with
    | int v =>
      obtain ⟨x, xs, rfl, r1, r2⟩ := r
      cases r1
      unfold intPairs at e
      cases h : intPairs ks vs with
      | none => rw [h] at e; cases e
      | some l' =>
        rw [h] at e
        cases e
        rw [List.zip_cons_cons, intPairs_rep r2 h]
        rfl
    | _ => simp [intPairs] at e
def pairD (z : Int × Int) : D := .tup [.int z.1, .int z.2]
theorem pairs_repL {K : PySem.W.Frag} {μ : List Addr} {H : Hp} : ∀ {l : List (Int × Int)} {bs : List Addr}, bs.length = l.length → (∀ (j : Nat) (b : Addr) (z : Int × Int), bs[j]? = some b → l[j]? = some z → ∃ o, H b = some (.frz o (.tup [.int z.1, .int z.2])) ∧ o.dict = none) → RepL K μ H (l.map pairD) (bs.map V.ref)
  | [], [], _, _ => rfl
  | [], _ :: _, e, _ => by cases e
  | _ :: _, [], e, _ => by cases e
  | z :: l, b :: bs, e, h => by
    obtain ⟨o, h1, h2⟩ := h 0 b z rfl rfl
    exact ⟨_, _, rfl, ⟨b, _, rfl, .inl ⟨o, h1, h2⟩, ⟨_, _, rfl, rfl, ⟨_, _, rfl, rfl, rfl⟩⟩⟩, pairs_repL (Nat.succ.inj e) fun j b z h1 h2 => h (j + 1) b z h1 h2⟩
def eSortIt (Fo : ES) : ES := fun ρ m => (Fo ρ m).bind fun o m1 => match dicOf m1 o with
  | some (ks, vs) => (match intPairs ks vs with
    | some l => .ok (.lst ((isort l).map pairD)) m1
    | none => .no)
  | none => .no
section
variable {X : Cx} {T : List (Addr × Str)} {W : WX}
theorem de_sortIt {o : Expr} {p pos apos cpos : Pos} {Fo : ES} (hc : X.calm = true) (hm : X.mg "sorted" = none) (ho : DE X T W o Fo) (hg : Gl X "sorted" := by rfl)
    (hbase : attributeBase o "items" X.env (eval o X.env) = eval o X.env := by rfl) (hline : (apos.endLine == cpos.line) = true := by rfl)
    (he : starEach [.Call (.Attribute o "items" apos) [] [] cpos] X.env = (false, eval (.Call (.Attribute o "items" apos) [] [] cpos) X.env) :: starEach [] X.env := by rfl) :
    DE X T W (.Call (.Name "sorted" p) [.Call (.Attribute o "items" apos) [] [] cpos] [] pos) (eSortIt Fo) := by
  have hi : PE X (.Call (.Attribute o "items" apos) [] [] cpos) (tMt X.K "dict" rItemsK (tG (Rep X.K) T X.K W Fo) tNil) := pe_mt0 PySem.F.plainAttrs_dict PySem.F.slot_dict_items PySem.F.type_dict_items mt_itemsK ho.run hbase hline
  refine ⟨(pe_callB (cr_sortItK hc).frz hg hm (by decide +kernel) (pa_cons hi pa_nil he)).weak fun σ H Q ⟨μ, ρ, m, er, s, q⟩ => tG_mk er s (q.bind fun d m1 μ1 H1 x x1 s1 r1 q1 => ?_)⟩
  split at q1
  · rename_i ks vs hd
    split at q1
    · rename_i l hl
      obtain ⟨a, xs, rfl, rd, hlen, rl⟩ := dicOf_rep s1 r1 hd
      refine ⟨.inr ⟨rfl, a, _, rfl, rd⟩, a, _, rfl, rfl, rd, fun p hp => ?_⟩
      have x2 : Ext μ1 H1 μ1 (upd H1 p (L2.DX.itemsO p a)) := .new hp
      rw [intPairs_rep rl hl] at rd
      refine ⟨p, a, l, rfl, upd_same, ?_, fun H' l' bs hn kp hl' hbl hbs => ?_⟩
      · rcases rd with e | ⟨o, e⟩
        · exact .inl (by rw [upd_ne (ne_of_none e hp)]; exact e)
        · exact .inr ⟨o, by rw [upd_ne (ne_of_none e hp)]; exact e⟩
      · have kp0 : ∀ b o, H1 b = some o → H' b = some o := fun b o e => kp b o (by rw [upd_ne (ne_of_none e hp)]; exact e)
        refine .inr ⟨l', _, rfl, hl', trivial, fun od => ?_⟩
        have nl : H1 l' = none := by
          by_cases z : l' = p
          · rw [z]; exact hp
          · rw [upd_ne z] at hn; exact hn
        have kp1 : ∀ b o, H1 b = some o → upd H' l' (.frz od (.lst (bs.map V.ref))) b = some o := fun b o e => by rw [upd_ne (ne_of_none e nl)]; exact kp0 b o e
        have x3 : Ext μ1 H1 μ1 (upd H' l' (.frz od (.lst (bs.map V.ref)))) := ⟨List.prefix_refl _, ⟨fun a xs e => kp1 _ _ e, fun a o u e => kp1 _ _ e, fun c q e => kp1 _ _ e⟩, fun b o e _ => .inl (kp1 _ _ e), fun b h n => absurd h n⟩
        have s3 : Sto T X.K μ1 (upd H' l' (.frz od (.lst (bs.map V.ref)))) m1 := ⟨s1.len, s1.nd, fun n c b e1 e2 => (s1.rep n c b e1 e2).keep x3.kept (List.prefix_refl _) fun o e _ => kp1 _ _ e, s1.tab.ext kp1⟩
        refine q1 μ1 _ _ x3 s3 ⟨l', _, rfl, ⟨od, upd_same⟩, pairs_repL hbl fun j b z h1 h2 => ?_⟩
        obtain ⟨o, e1, e2⟩ := hbs j b z h1 h2
        refine ⟨o, ?_, e2⟩
        rw [upd_ne]
        · exact e1
        · intro z
          rw [z, hl'] at e1
          cases e1
    · exact q1.elim
  · exact q1.elim
end
end DL


/-! DLm: sorted(set(a list of ints)); sorted of a dict's int keys; sorted of a list of ints. -/
namespace DL
open PySem PySem.Spec L2
open PyProof.Rows hiding St
section
variable {P : Program} {w : World} {A : Around} {E : Value → Shared → Prop} {s : Shared}
/-- the object that set.__new__ lays -/
abbrev set0 (w : World) : Obj := { cls := .type "set", dict := none, data := .set #[] 0 (.fresh 0 0 (!w.params.followText "set-order")) }
set_option maxHeartbeats 3200000 in
/-- set(l), l a list of ints (the road is call_set_tupI's, for a list) -/
theorem call_set_lstI {l : Addr} {items : Array Value} (ns : List Int) {Q : Value → Shared → Prop} (hh : A.handled = none) (hl : s.heap.IsList l items) (hit : IntsAre items.toList ns) (hb : ns.length + 1 < scanBound)
    (h : ∀ (h' : Heap) (tk c : Nat), SetR w h' s.heap.objs.size (fun j => decide (j ∈ ns)) c → c ≤ ns.length → (∀ b o, s.heap.get? b = some o → h'.get? b = some o) → Q (.ref s.heap.objs.size) { s with heap := h', toks := tk }) :
    wpAny (model P w) A (call (.type "set") [.ref l]) Q E s := by
  have hisz : items.size = ns.length := by
    rw [← IntsAre.length hit, Array.length_toList]
  have hlS : l < s.heap.objs.size := let ⟨_, e, _⟩ := hl; Heap.lt_size e
  obtain ⟨c, tl, hmro⟩ := F.called_set.mro
  have hmade := F.called_set.made
  have hsub := F.called_set.sub
  refine wpAny_call (codeAny_of_tree ?_)
  show wpAny _ _ (callAny (.type "set") _) _ _ _
  refine wpAny_pure ⟨Code.quiet_builtin _ (by decide +kernel), codeAny_builtin F.entry_type_call ?_⟩
  rw [Around.under_plain (weight_type_call_type "set" [.ref l] []) rfl]
  have h1 := F.called_set.notType
  have h2 := F.called_set.canCreate
  have hct := F.typeCall_set_1 (.ref l)
  repeat (any_goals (first | assumption | wp_step))
  refine codeAny_mono (code_set_led1 (.ref l) (E := E) (Q₁ := fun obj s₁ => obj = .ref s.heap.objs.size ∧ s₁ = { s with heap := s.heap.push (set0 w) }) ⟨rfl, rfl⟩) fun r s₁ hr => ?_
  match r, hr with
  | .error e, hr => exact hr
  | .ok .next, hr => exact hr.elim
  | .ok .brk, hr => exact hr.elim
  | .ok .cont, hr => exact hr.elim
  | .ok (.ret obj), ⟨e1, e2⟩ =>
    subst e1 e2
    have hS : (s.heap.push (set0 w)).get? s.heap.objs.size = some (set0 w) := Heap.get?_push_size _ rfl
    have hT : Shared.TypeIs { s with heap := s.heap.push (set0 w) } (.ref s.heap.objs.size) "set" := ⟨_, hS, rfl⟩
    have hli := F.called_set.init.lookup
    have hbi := F.called_set.init.bind (.ref s.heap.objs.size)
    repeat (any_goals (first | assumption | wp_step))
    refine codeAny_mono (codeAny_call_builtin (R := wants (fun r s₂ => r = .none ∧ ∃ h' tk c, s₂ = { s with heap := h', toks := tk } ∧ SetR w h' s.heap.objs.size (fun j => decide (j ∈ ns)) c ∧ c ≤ ns.length ∧
        (∀ b o, s.heap.get? b = some o → h'.get? b = some o)) E) F.called_set.init.plain F.entry_set_init (check_set_init_1 hT ?_)) fun r₂ s₂ hr₂ => ?_
    · obtain ⟨⟨ocls, odict, odata, oslots⟩, hol, hcl, nl, hdl⟩ := hl
      simp only at hcl hdl
      subst hcl hdl
      have hol' : (s.heap.push (set0 w)).get? l = some { cls := .type "list", dict := odict, data := .seq items nl, slots := oslots } := Heap.get?_push_of_some _ hol
      have hsls := F.sub_list_set
      have hslf := F.sub_list_frozenset
      have hne : (Value.type "list" == Value.type "dict") = false := by decide
      have hl1 : (s.heap.push (set0 w)).IsList l items := ⟨_, hol', rfl, nl, rfl⟩
      unfold Builtin.«set.__init__» noKeywords Builtin.Frozenset.updateFrom
      generalize hPI : pyIter = PI
      wp_walk
      subst hPI
      refine wpAny_pyIter_list hl1 ?_
      refine wpAny_bind (wpAny_runValue ?_)
      have hz1 : (s.heap.push (set0 w)).objs.size = s.heap.objs.size + 1 := Heap.size_push ..
      have hneI : l ≠ (s.heap.push (set0 w)).objs.size := by rw [hz1]; exact Nat.ne_of_lt (Nat.lt_succ_of_lt hlS)
      have hSf : s.heap.objs.size ∉ [(s.heap.push (set0 w)).objs.size, l] := by
        rw [hz1]
        simp only [List.mem_cons, List.not_mem_nil, or_false, not_or]
        exact ⟨Nat.ne_of_lt (Nat.lt_succ_self _), Nat.ne_of_gt hlS⟩
      have hval : ∀ (i : Nat) (v : Value), items[i]? = some v → ∃ k t, ns[i]? = some k ∧ v = .int k t := fun i v hv => by
        have hi : i < ns.length := by rw [← hisz]; exact (Array.getElem?_eq_some_iff.mp hv).1
        obtain ⟨t, e⟩ := PyProof.Rows.IntsAre.int_at hit i v (by rw [Array.getElem?_toList]; exact hv)
        refine ⟨ns[i], t, List.getElem?_eq_getElem hi, ?_⟩
        rw [e, List.getD_eq_getElem?_getD, List.getElem?_eq_getElem hi] <;> rfl
      refine set_update_ints ((Walks.list (by simp [hh]) _ l hneI items).toS) s.heap.objs.size hSf ns hisz hb hval (items.size - 0) 0 _ (by omega) (Nat.zero_le _)
        ⟨⟨_, Heap.get?_push_size _ rfl, rfl, rfl⟩, (hl1.push _)⟩ ⟨0, Nat.le_refl 0, setR_new_at (Heap.get?_push_of_some _ hS)⟩ fun s' c' hm hc' hS' => ?_
      obtain ⟨h', g2, d', tk', os'⟩ := s'
      have eg : g2 = s.gens := hm.gens
      have ed : d' = s.drawn := hm.drawn
      have eo : os' = s.os := hm.os
      subst eg; subst ed; subst eo
      show wpAny _ _ _ _ _ _
      refine wpAny_pure ?_
      show wpAny _ _ (ret Value.none) _ _ _
      refine wpAny_pure ⟨rfl, h', tk', c', rfl, hS', by omega, fun b o e => hm.heap b o ?_ (Heap.get?_push_of_some _ (Heap.get?_push_of_some _ e))⟩
      have hb0 : b < s.heap.objs.size := Heap.lt_size e
      rw [hz1]
      simp only [List.mem_cons, List.not_mem_nil, or_false, not_or]
      exact ⟨Nat.ne_of_lt hb0, Nat.ne_of_lt (Nat.lt_succ_of_lt hb0)⟩
    · match r₂, hr₂ with
      | .error e, hr₂ => exact hr₂
      | .ok .next, hr₂ => exact hr₂.elim
      | .ok .brk, hr₂ => exact hr₂.elim
      | .ok .cont, hr₂ => exact hr₂.elim
      | .ok (.ret r), ⟨e1, h', tk, c', e2, hS', hc', hk'⟩ =>
        subst e1 e2
        repeat (any_goals (first | assumption | wp_step))
        exact h _ _ _ hS' hc' hk'
end

/-! ### ints in a list -/
def intsD : List D → Option (List Int)
  | [] => some []
  | .int k :: l => (intsD l).map (k :: ·)
  | _ => none
theorem intsD_rep {K : PySem.W.Frag} {μ : List Addr} {H : Hp} : ∀ {l : List D} {ns : List Int} {xs : List V}, RepL K μ H l xs → intsD l = some ns → xs = ns.map V.int
  | [], _, _, r, e => by cases e; cases r; rfl
  | d :: l, ns, _, r, e => by
    cases d with
    | int k =>
      obtain ⟨x, xs, rfl, r1, r2⟩ := r
      cases r1
      unfold intsD at e
      cases h : intsD l with
      | none => rw [h] at e; cases e
      | some l' => rw [h] at e; cases e; rw [intsD_rep r2 h]; rfl
    | _ => simp [intsD] at e
theorem ints_repL {K : PySem.W.Frag} {μ : List Addr} {H : Hp} : ∀ (l : List Int), RepL K μ H (l.map D.int) (l.map V.int)
  | [] => rfl
  | _ :: l => ⟨_, _, rfl, rfl, ints_repL l⟩
def uins (k : Int) : List Int → List Int
  | [] => [k]
  | x :: l => if k < x then k :: x :: l else if k = x then x :: l else x :: uins k l
def usort (l : List Int) : List Int := l.foldr uins []
theorem mem_uins {k j : Int} : ∀ {l : List Int}, j ∈ uins k l ↔ j = k ∨ j ∈ l
  | [] => by simp [uins]
  | x :: l => by
    unfold uins
    split
    · simp
    · split
      · rename_i e; subst e; simp
      · rw [List.mem_cons, mem_uins, List.mem_cons]
        constructor
        · rintro (h | h | h) <;> simp [h]
        · rintro (h | h | h) <;> simp [h]
theorem uins_sorted {k : Int} : ∀ {l : List Int}, l.Pairwise (· < ·) → (uins k l).Pairwise (· < ·)
  | [], _ => by simp [uins]
  | x :: l, h => by
    rw [List.pairwise_cons] at h
    unfold uins
    split
    · rename_i lt
      refine List.pairwise_cons.mpr ⟨fun y hy => ?_, List.pairwise_cons.mpr h⟩
      rcases List.mem_cons.mp hy with rfl | hy
      · exact lt
      · exact Int.lt_trans lt (h.1 y hy)
    · split
      · exact List.pairwise_cons.mpr h
      · refine List.pairwise_cons.mpr ⟨fun y hy => ?_, uins_sorted h.2⟩
        rcases mem_uins.mp hy with rfl | hy
        · omega
        · exact h.1 y hy
theorem mem_usort {j : Int} : ∀ {l : List Int}, j ∈ usort l ↔ j ∈ l
  | [] => by simp [usort]
  | x :: l => by
    show j ∈ uins x (usort l) ↔ _
    rw [mem_uins, mem_usort, List.mem_cons]
theorem usort_sorted : ∀ (l : List Int), (usort l).Pairwise (· < ·)
  | [] => by simp [usort]
  | x :: l => uins_sorted (usort_sorted l)
theorem strict_uniq {l k : List Int} (h1 : l.Pairwise (· < ·)) (h2 : k.Pairwise (· < ·)) (h : ∀ j, j ∈ l ↔ j ∈ k) : l = k := by
  have n1 : l.Nodup := h1.imp fun h => by omega
  have n2 : k.Nodup := h2.imp fun h => by omega
  refine List.Perm.eq_of_pairwise (le := fun a b => a < b) (fun a b _ _ h1 h2 => ?_) h1 h2 ((List.perm_ext_iff_of_nodup n1 n2).mpr h)
  omega
def isortI (l : List Int) : List Int := l.mergeSort fun a b => decide (a ≤ b)
theorem isortI_uniq {l zs : List Int} (p : zs.Perm l) (s : zs.Pairwise (· ≤ ·)) : zs = isortI l := by
  refine List.Perm.eq_of_pairwise (le := fun a b => a ≤ b) (fun a b _ _ h1 h2 => by omega) s ?_ (p.trans (List.mergeSort_perm l _).symm)
  have := List.pairwise_mergeSort (le := fun a b : Int => decide (a ≤ b)) (fun a b c h1 h2 => by simp at *; omega) (fun a b => by simp; omega) l
  exact this.imp fun h => of_decide_eq_true h
/-! ### sorted(set(e)) -/
def eSortSet (F : ES) : ES := fun ρ m => (F ρ m).bind fun d m1 => match (lstOf m1 d).bind intsD with
  | some ns => if ns.length < 64 then .ok (.lst ((usort ns).map D.int)) m1 else .no
  | none => .no
section
variable {X : Cx} {T : List (Addr × Str)} {W : WX}
def rSetLI (K : PySem.W.Frag) (w : World) : List V → Hp → VK → Prop := fun xs H Q => ∃ (a : Addr) (ns : List Int), xs = [.ref a] ∧ SqL K H a (ns.map V.int) ∧ ns.length < 64 ∧
  ∀ (p : Addr) (c : Nat), c ≤ ns.length → H p = none → Q (.ref p) (upd H p (SetO w p (fun j => decide (j ∈ ns)) c))
theorem cr_setLI (hc : X.calm = true) : CallR X (.type "set") (rSetLI X.K X.w) := by
  intro pins s σ H xs us Q I r h
  obtain ⟨a, ns, rfl, hs, h64, q⟩ := h
  obtain ⟨its, rv, hl, hz⟩ := I.list hs
  rw [Vals.ref1 r]
  refine call_set_lstI ns (I.ok.hd hc) hl.isList (by rw [List.toList_toArray]; exact ints_of_vals rv) (by unfold scanBound; omega) fun h' tk c R hcn kp => ?_
  exact ⟨.ref _, _, I.laid (t' := tk) kp (Nat.le_refl _) (setO_new R), rfl, q _ c hcn (I.hok.fresh (Nat.le_refl _))⟩
theorem de_sortSet {e : Expr} {p pos p2 pos2 : Pos} {F : ES} (hc : X.calm = true) (hm : X.mg "sorted" = none) (hm2 : X.mg "set" = none) (ho : DE X T W e F) (hg : Gl X "sorted" := by rfl) (hg2 : Gl X "set" := by rfl)
    (he2 : starEach [e] X.env = (false, eval e X.env) :: starEach [] X.env := by rfl)
    (he : starEach [.Call (.Name "set" p2) [e] [] pos2] X.env = (false, eval (.Call (.Name "set" p2) [e] [] pos2) X.env) :: starEach [] X.env := by rfl) :
    DE X T W (.Call (.Name "sorted" p) [.Call (.Name "set" p2) [e] [] pos2] [] pos) (eSortSet F) := by
  have h1 := pe_callTy (p := p2) (pos := pos2) (cr_setLI hc) hg2 hm2 (by decide +kernel) (pa_cons ho.run pa_nil he2) (by decide) (by decide) he2
  refine ⟨(pe_callB (cr_sortedSet hc).frz hg hm (by decide +kernel) (pa_cons h1 pa_nil he)).weak fun σ H Q ⟨μ, ρ, m, er, s, q⟩ => tG_mk er s (q.bind fun d m1 μ1 H1 x x1 s1 r1 q1 => ?_)⟩
  split at q1
  · rename_i ns hd
    split at q1
    · rename_i h64
      obtain ⟨l, hl, hi⟩ := Option.bind_eq_some_iff.mp hd
      obtain ⟨a, xs, rfl, hs, rl⟩ := lstOf_rep s1 r1 hl
      have ex := intsD_rep rl hi
      subst ex
      refine ⟨a, ns, rfl, hs, h64, fun p c hcn hp => ⟨p, _, c, rfl, upd_same, by omega, fun zs p2 hz1 hz2 hz3 hp2 => ?_⟩⟩
      have ez : zs = usort ns := strict_uniq hz1 (usort_sorted ns) fun j => by rw [hz2, mem_usort]; simp
      subst ez
      exact post_newL (s1.new hp) (ints_repL _) (Post.ext (rp := Rep X.K) (r := R.ok (.lst ((usort ns).map D.int)) m1) (.new hp) q1) p2 hp2
    · exact q1.elim
  · exact q1.elim
/-! ### sorted(l), sorted(d) -/
def keyInts : List Key → Option (List Int)
  | [] => some []
  | .inl k :: l => (keyInts l).map (k :: ·)
  | .inr _ :: _ => none
theorem keyInts_eq : ∀ {ks : List Key} {ns : List Int}, keyInts ks = some ns → ks = ns.map Sum.inl
  | [], _, e => by cases e; rfl
  | .inl k :: l, _, e => by
    unfold keyInts at e
    cases h : keyInts l with
    | none => rw [h] at e; cases e
    | some l' => rw [h] at e; cases e; rw [keyInts_eq h]; rfl
  | .inr _ :: _, _, e => by cases e
def sortD : FS := fun ds m => match ds with
  | [d] => (match (lstOf m d).bind intsD with
    | some ns => .ok (.lst ((isortI ns).map D.int)) m
    | none => (match dicOf m d with
      | some (ks, _) => (match keyInts ks with
        | some ns => if ns.length < 64 then .ok (.lst ((isortI ns).map D.int)) m else .no
        | none => .no)
      | none => .no))
  | _ => .no
def rSortA (K : PySem.W.Frag) : List V → Hp → VK → Prop := fun xs H Q => rSortedI K xs H (FQ Q) ∨ (∃ (a : Addr) (kvs : List (Key × V)) (ks : List Int), xs = [.ref a] ∧ Rd H a (.dK kvs) ∧ kvs.map (·.1) = ks.map Sum.inl ∧ ks.length < 64 ∧
    ∀ (ys : List Int) (p : Addr), ys.Perm ks → ys.Pairwise (· ≤ ·) → H p = none → FQ Q (.ref p) (upd H p (.lst (ys.map V.int))))
theorem cr_sortA (hc : X.calm = true) : CallR X (.builtin "sorted") (rSortA X.K) := fun pins s σ H xs us Q I r h => by
  rcases h with h | h
  · exact cr_sortedI.frz pins s σ H xs us Q I r h
  · exact (call_sortedDI hc).frz pins s σ H xs us Q I r h
theorem sortD_ok : ArD X T sortD (rSortA X.K) := by
  intro W σ μ H m ds xs Q S r q
  unfold sortD at q
  split at q
  · obtain ⟨v, rfl, r1⟩ := repL1 r
    split at q
    · rename_i d ns hd
      obtain ⟨l, hl, hi⟩ := Option.bind_eq_some_iff.mp hd
      obtain ⟨a, xs, rfl, hs, rl⟩ := lstOf_rep S r1 hl
      have ex := intsD_rep rl hi
      subst ex
      refine .inl ⟨a, ns, rfl, hs, fun zs p h1 h2 hp => ?_⟩
      rw [isortI_uniq h1 h2]
      exact post_newL S (ints_repL _) q p hp
    · split at q
      · rename_i ks vs hd
        split at q
        · rename_i ns hk
          split at q
          · rename_i h64
            obtain ⟨a, xs, rfl, rd, hlen, rl⟩ := dicOf_rep S r1 hd
            refine .inr ⟨a, _, ns, rfl, rd, ?_, h64, fun zs p h1 h2 hp => ?_⟩
            · rw [List.map_fst_zip (by rw [← rl.length, hlen]; exact Nat.le_refl _), keyInts_eq hk]
            · rw [isortI_uniq h1 h2]
              exact post_newL S (ints_repL _) q p hp
          · exact q.elim
        · exact q.elim
      · exact q.elim
  · exact q.elim
end
end DL


/-! DLn: dict displays, targets behind a list, is True, repeats. -/
namespace DL
open PySem PySem.Spec L2
open PyProof.Rows hiding St

/-! ### an object of ours that is no cell -/
section
variable {T : List (Addr × Str)} {K : PySem.W.Frag} {μ μ2 : List Addr} {H H2 : Hp} {m : List C} {p : Addr} {o : HO}
theorem Sto.nin (S : Sto T K μ H m) (h : H p = none) : p ∉ μ := fun z => by
  obtain ⟨u, e⟩ := S.mem z
  rw [h] at e
  cases e
theorem Sto.off (S : Sto T K μ H m) (hp : p ∉ μ) (hc : Celled (H p)) : Sto T K μ (upd H p o) m :=
  ⟨S.len, S.nd, fun n c a e1 e2 => (S.rep n c a e1 e2).keep (.mut hc) (List.prefix_refl _) fun u e _ => by
    rw [upd_ne (fun z => hp (by rw [← z]; exact List.mem_of_getElem? e2))]
    exact e, tabs_set S.tab hc⟩
theorem Ext.off {q : HO} (x : Ext μ (upd H p q) μ2 H2) (hn : H p = none) (hq : ∀ ps, q ≠ .tbl ps) (hp : p ∉ μ) : Ext μ H μ2 (upd H2 p o) ∧ H2 p = some q ∧ p ∉ μ2 := by
  have n2 : p ∉ μ2 := fun z => by
    rcases x.fresh p z hp with e | ⟨ps, e⟩
    · rw [upd_same] at e; cases e
    · rw [upd_same] at e; exact hq ps (Option.some.inj e)
  have k : ∀ b u, H b = some u → b ≠ p := fun b u e => ne_of_none e hn
  refine ⟨⟨x.pre, ⟨fun a xs e => ?_, fun a u v e => ?_, fun a u e => ?_⟩, fun a u e n => ?_, fun a h n => ?_⟩, ?_, n2⟩
  · rw [upd_ne (k a _ e)]; exact x.kept.tup a xs (by rw [upd_ne (k a _ e)]; exact e)
  · rw [upd_ne (k a _ e)]; exact x.kept.frz a u v (by rw [upd_ne (k a _ e)]; exact e)
  · rw [upd_ne (k a _ e)]; exact x.kept.cod a u (by rw [upd_ne (k a _ e)]; exact e)
  · rw [upd_ne (k a _ e)]; exact x.frame a u (by rw [upd_ne (k a _ e)]; exact e) n
  · have ne : a ≠ p := fun z => n2 (by rw [← z]; exact h)
    have := x.fresh a h n
    rw [upd_ne ne] at this
    exact this
  · rcases x.frame p q upd_same hp with e | ⟨ps, e⟩
    · exact e
    · exact absurd e (hq ps)
end

/-! ### {k: v, ..} -/
abbrev PS := Env → List C → R (List Key × List D)
def pNil : PS := fun _ m => .ok ([], []) m
def pCons (Fk Fv : ES) (S : PS) : PS := fun ρ m => (Fk ρ m).bind fun k m1 => (Fv ρ m1).bind fun v m2 => (S ρ m2).bind fun q m3 => match keyOf k with
  | some k => .ok (k :: q.1, v :: q.2) m3
  | none => .no
def pRep (K : PySem.W.Frag) : List Addr → Hp → List Key × List D → List (V × V) → Prop := fun μ H q ps => ∃ xs, ps = (q.1.zip xs).map (fun kv => (kV kv.1, kv.2)) ∧ q.1.length = q.2.length ∧ RepL K μ H q.2 xs
structure DPs (X : Cx) (T : List (Addr × Str)) (W : WX) (pos : Pos) (keys : List (Option Expr)) (values : List Expr) (S : PS) : Prop where
  run : ∃ trs, PPs X pos keys values trs ∧ ∀ σ H (Q : List (V × V) → Hp → Prop), tG (pRep X.K) T X.K W S σ H Q → tPairs trs σ H Q
section
variable {X : Cx} {T : List (Addr × Str)} {W : WX} {pos : Pos}
theorem dps_nil : DPs X T W pos [] [] pNil := ⟨[], pps_nil, fun σ H Q ⟨μ, ρ, m, er, s, q⟩ => post_here (rp := pRep X.K) (a := ([], [])) s ⟨[], rfl, rfl, rfl⟩ q⟩
theorem dps_cons {k v : Expr} {ks : List (Option Expr)} {vs : List Expr} {Fk Fv : ES} {S : PS} (hk : DE X T W k Fk) (hv : DE X T W v Fv) (h : DPs X T W pos ks vs S) : DPs X T W pos (some k :: ks) (v :: vs) (pCons Fk Fv S) := by
  obtain ⟨trs, h1, h2⟩ := h.run
  refine ⟨_, pps_cons hk.run hv.run h1, fun σ H Q ⟨μ, ρ, m, er, s, q⟩ => tG_mk er s (q.bind fun dk m1 μ1 H1 x x1 s1 r1 q1 => tG_mk (er.ext x1) s1 (q1.bind fun dv m2 μ2 H2 y x2 s2 r2 q2 => h2 _ _ _ (tG_mk ((er.ext x1).ext x2) s2 (q2.bind fun q m3 μ3 H3 ps x3 s3 r3 q3 => ?_))))⟩
  split at q3
  · rename_i kk hkk
    obtain ⟨xs, rfl, hl, rl⟩ := r3
    have ek := keyOf_rep ((r1.ext x2).ext x3) hkk
    refine post_here (rp := pRep X.K) (a := (kk :: q.1, dv :: q.2)) s3 ⟨y :: xs, ?_, congrArg (· + 1) hl, ⟨y, xs, rfl, r2.ext x3, rl⟩⟩ q3
    rw [ek]
    rfl
  · exact q3.elim
def eDisp (S : PS) : ES := fun ρ m => (S ρ m).bind fun q m1 => if q.1.length ≤ 15 then .ok (.dic (mergeD [] [] q.1 q.2).1 (mergeD [] [] q.1 q.2).2) m1 else .no
theorem de_disp {keys : List (Option Expr)} {values : List Expr} {S : PS} (h : DPs X T W pos keys values S) (hall : keys.all (·.isSome) = true := by rfl) (hl : keys.length = values.length := by rfl) (h0 : keys ≠ [] := by exact fun z => nomatch z)
    (h15 : keys.length ≤ 15 := by decide) : DE X T W (.Dict keys values pos) (eDisp S) := by
  obtain ⟨trs, h1, h2⟩ := h.run
  refine ⟨(pe_frz (pe_disp h1 hall hl h0 h15)).weak fun σ H Q ⟨μ, ρ, m, er, s, q⟩ p hp => h2 _ _ _ ?_⟩
  have x0 : Ext μ H μ (upd H p (.dK [])) := .new hp
  have np := s.nin hp
  refine tG_mk (er.ext x0) (s.new hp) ?_
  unfold eDisp at q
  cases e : S ρ m with
  | no => rw [e] at q; exact q.elim
  | exc c ns vs m1 =>
    rw [e] at q
    refine fun μ1 H1 od x1 s1 xr => ?_
    have key : ∀ {μ2 H2}, Ext μ (upd H p (.dK [])) μ2 H2 → Ext μ H μ2 H2 := fun x => x0.trans x
    exact q μ1 H1 od (key x1) s1 xr
  | ok kv m1 =>
    rw [e] at q
    obtain ⟨ks, vs⟩ := kv
    refine fun μ1 H1 ps x1 s1 r1 => ?_
    obtain ⟨xs, rfl, hl, rl⟩ := r1
    have q2 : Post (Rep X.K) T X.K W σ μ H (if ks.length ≤ 15 then R.ok (.dic (mergeD [] [] ks vs).1 (mergeD [] [] ks vs).2) m1 else .no) Q := q
    split at q2
    · rename_i h15
      obtain ⟨_, hp1, np1⟩ := Ext.off (o := .dK []) x1 hp (fun _ z => by cases z) np
      refine ⟨hp1, ks.zip xs, rfl, by rw [List.length_zip]; omega, .inr ⟨p, .dK (mergeK [] (ks.zip xs)), rfl, upd_same, trivial, fun od => ?_⟩⟩
      rw [upd_upd]
      obtain ⟨x2, _, _⟩ := Ext.off (o := .frz od (.dK (mergeK [] (ks.zip xs)))) x1 hp (fun _ z => by cases z) np
      obtain ⟨ys, e1, e2, e3⟩ := mergeD_rep (ks0 := []) (vs0 := []) (xs0 := []) rl hl rfl rfl
      have hc : Celled (H1 p) := by rw [hp1]; trivial
      refine q2 μ1 _ _ x2 (s1.off np1 hc) ⟨p, ys, od, rfl, ?_, e3, e2.keep (.mut hc) (List.prefix_refl _)⟩
      rw [upd_same, show ([] : List (Key × V)) = ([] : List Key).zip ([] : List V) from rfl, e1]
    · exact q2.elim
end

/-! ### a, b, .. = a list -/
def gL (n : Nat) (gs : GSs) : GS := fun d ρ m => match lstOf m d with
  | some l => if l.length = n then gs l ρ m else none
  | none => none
section
variable {X : Cx} {T : List (Addr × Str)} {W : WX} {pos : Pos}
theorem dg_lst {es : List Expr} {k n : Nat} {ws : List Nat} {gs : GSs} (hc : X.calm = true) (h : DGs X T es ws gs) (hn : (assignEach es X.env).length = n := by rfl) (hst : (assignEach es X.env).findIdx? (·.1) = none := by rfl) : DG X T (.Tuple es k pos) ws (gL n gs) :=
  ⟨(pg_lst hc h.run hn hst).weak fun v σ H Q ⟨μ, ρ, m, d, e, s, r, ρ', eg, h⟩ => by
    unfold gL at eg
    split at eg
    · rename_i l hl
      split at eg
      · rename_i hn
        obtain ⟨a, xs, rfl, hs, rl⟩ := lstOf_rep s r hl
        exact ⟨a, xs, rfl, hs, by rw [← rl.length]; exact hn, μ, ρ, m, l, e, s, rl, ρ', eg, h⟩
      · cases eg
    · cases eg⟩
/-! ### is, of bools -/
def isBD : D → D → List C → R D := fun a b m => match a, b with
  | .bl a, .bl b => .ok (.bl (decide (a = b))) m
  | _, _ => .no
theorem isBD_ok : OpD X T isBD (fun x y H Q => ∃ a b, x = .bl a ∧ y = .bl b ∧ Q (.bl (decide (a = b))) H) := by
  intro W σ μ H m d1 d2 x y Q S r1 r2 q
  unfold isBD at q
  split at q
  · cases r1; cases r2
    exact ⟨_, _, rfl, rfl, post_here (a := D.bl _) S rfl q⟩
  · exact q.elim
/-! ### repeats -/
/-- a list cell just made, repeated -/
def repD : D → D → List C → R D := fun a b m => match a, b with
  | .cell n, .int k => (match m[n]? with
    | some (.lst l) => if -(2 ^ 63) ≤ k ∧ k < 2 ^ 63 ∧ fits (l.length * k.toNat) then .ok (.lst (List.replicate k.toNat l).flatten) m else .no
    | _ => .no)
  | _, _ => .no
theorem RepL.flat {K : PySem.W.Frag} {μ : List Addr} {H : Hp} {l : List D} {xs : List V} (r : RepL K μ H l xs) : ∀ k : Nat, RepL K μ H (List.replicate k l).flatten (List.replicate k xs).flatten
  | 0 => rfl
  | k + 1 => by
    rw [List.replicate_succ, List.replicate_succ, List.flatten_cons, List.flatten_cons]
    exact r.append (RepL.flat r k)
theorem repD_ok : OpD X T repD (fun x y H Q => rRep x y H (FQ Q)) := by
  intro W σ μ H m d1 d2 x y Q S r1 r2 q
  unfold repD at q
  split at q
  · cases r2
    obtain ⟨a, ea, rfl⟩ := r1
    split at q
    · rename_i l hm
      split at q
      · rename_i hk
        obtain ⟨h1, h2, h3⟩ := hk
        obtain ⟨xs, ex, rl⟩ := S.rep _ _ a hm ea
        exact ⟨a, _, xs, rfl, rfl, ex, h1, h2, by rw [← rl.length]; exact fits_iff.mp h3, post_newL S (rl.flat _) q⟩
      · exact q.elim
    · exact q.elim
  · exact q.elim
end
end DL


/-! DLo: defs that make lambdas; own classes. -/
namespace DL
open PySem PySem.Spec L2
open PyProof.Rows hiding St

/-- a def whose code object and table are told -/
structure DefT (K : PySem.W.Frag) (mg : Str → Option Value) (x : Str) (st : Stmt) (ps : List Str) (c : Addr) where
  f : Addr
  fd : FuncData
  ex : ∃ (oc : Value) (od : Option Addr) (kV doc pm : Value) (an : Option Addr) (ct : Value) (osl : Array (Option Value)),
    fd = PySem.W.fnOf x x (defArgs st) (defBody st) (defScope st) .none kV doc pm an (.ref c) ct ∧ K.lookup f = some ⟨oc, od, .func fd, osl⟩ ∧ PySem.W.codeIn K (.ref c) x = true
  kp : PySem.W.keepIn K (.ref f) = true
  m : mg x = some (.ref f)
  b : Binds K fd ps []
def DefT.F {K : PySem.W.Frag} {mg : Str → Option Value} {x : Str} {st : Stmt} {ps : List Str} {c : Addr} (D : DefT K mg x st ps c) : Fun K x x st D.f D.fd :=
  ⟨let ⟨oc, od, kV, doc, pm, an, ct, osl, h⟩ := D.ex; ⟨oc, od, kV, doc, pm, an, .ref c, ct, osl, h⟩, D.kp⟩
section
variable {P : Program} {w : World} {K : PySem.W.Frag} {mg : Str → Option Value} {base : Heap} {T : List (Addr × Str)}
/-- THE RULE for a def that makes lambdas -/
theorem fn_DT {x : Str} {st : Stmt} {N ps : List Str} {k : Nat} {c : Addr} {S : SS} (D : DefT K mg x st ps c) (Sc : FnScope N ps (defScope st))
    (hb : ∀ (A : Around) (outer : List PySem.Env) (s : Shared) (H : Hp) (E : XK), Room k (A.deeper (envOfC x (defScope st) s.heap.objs.size D.f (.ref c))) →
      Takes (cxOf (L2.CX P w) P w K mg base N x (defScope st) D.f (.ref c) A outer s H E) (fun cls d _ H' => E cls d H') → DSs (cxOf (L2.CX P w) P w K mg base N x (defScope st) D.f (.ref c) A outer s H E) T (fun cls d _ H' => E cls d H') (defBody st) S) :
    FnOk P w K mg base (L2.CX P w) (k + 1) D.f D.fd ps (spD K T ps.length (fnD N.length S)) := by
  obtain ⟨oc, od, kV, doc, pm, an, ct, osl, e, lk, hcd⟩ := D.ex
  obtain ⟨f, fd, ex, kp, m, b⟩ := D
  dsimp only at e lk hb ⊢
  subst e
  refine fn_of lk hcd Sc (fun vs H Q E h => h.1) fun A outer s H vs Q E hr h => ?_
  obtain ⟨hl, μ, ds, m, r, sto, h⟩ := h
  refine ⟨_, (hb A outer s H E hr (takes_of rfl rfl rfl rfl)).run, μ, startD N.length ds, m, startD_rep r, sto, ?_⟩
  unfold fnD at h
  cases e : S (startD N.length ds) m with
  | nx ρ1 m1 => rw [e] at h; exact fun μ1 H1 σ1 x1 s1 e1 => h μ1 H1 .non x1 s1 rfl
  | rt d m1 => rw [e] at h; exact h
  | bk ρ1 m1 => rw [e] at h; exact h.elim
  | ct ρ1 m1 => rw [e] at h; exact h.elim
  | ex c ns vs ρ1 m1 => rw [e] at h; exact fun μ1 H1 σ1 od x1 s1 e1 xr => h μ1 H1 od x1 s1 xr
  | no => rw [e] at h; exact h.elim
end
section
variable {X : Cx} {T : List (Addr × Str)} {W : WX}
open LamX in
theorem de_lamD {x a : Str} {st : Stmt} (D : DefAt X.K X.mg x st [a]) {Ng : List Str} (Sg : FnScope Ng [a] (defScope st)) {G : Th → Th} {F : ES} {c P : Addr} {k : Nat} {params : Arguments} {body : Expr} {scope : Scope} {p lpos pos : Pos} (hr : Room (k + 2) X.A)
    (hG : ∀ cdv, GivesD X T Ng x (defScope st) D.f cdv (defBody st) a G)
    (TB : TabB X.base X.mg c P) (hmT : (P, X.env.qual ++ "<lambda>") ∈ T) (hu : ∀ p ∈ T, p.1 = P → p.2 = X.env.qual ++ "<lambda>")
    (hbody : ∀ (A : Around) (outer : List PySem.Env) (s : Shared) (H : Hp) (E : XK) (f c' : Addr), Room k (A.deeper (lamEnv X scope s.heap.objs.size f c')) → DE (lamCx X A outer s H E scope f c') T (fun cls d _ H => E cls d H) body F)
    (hcode : X.env.code = .ref c := by rfl)
    (hNg : Ng[0]? = some a := by rfl) (hva : Vis (defScope st) a := by first | exact Or.inl rfl | exact Or.inr (Or.inl rfl)) (L : LamS X.env.scope scope := by exact LamX.lamS_by rfl) (hdef : defaultsOf params X.env = ([], []) := by rfl)
    (hbind : ∀ (q : Str) (cl : List (Str × Addr)) (pm cv ctv : Value), bindArgs (PySem.W.kla_fn "<lambda>" q params body scope cl pm cv ctv) ⟨[], []⟩ = pure [] := by intros; rfl)
    (hg : Gl X x := by rfl) (hdb : (x == ("__debug__" : Str)) = false := by decide) (hd : (a == ("__debug__" : Str)) = false := by decide) (hcd : (a == ("__classdict__" : Str)) = false := by decide) :
    DE X T W (.Call (.Name x p) [.Lambda params body scope lpos] [] pos) (eLam G F) := by
  obtain ⟨oc, od, kV, doc, pm, an, cdv, ct, osl, e, lk, hcg⟩ := D.F.ex
  rw [e] at lk
  have hb := D.b
  rw [e] at hb
  exact de_lam D.m D.F.kp lk hcg hb Sg hr (hG cdv) TB hcode hmT hu hbody hNg hva L hdef hbind hg hdb hd hcd
end
theorem _root_.L2.Room.u1 {k : Nat} {A : Around} (r : Room k A) : A.units + 1 < cLine := by have := r.un; omega
/-- an own class that is named -/
abbrev ClsAt (mg : Str → Option Value) (x : Str) (c : Addr) : Prop := mg x = some (.ref c)
/-- what a def makes of a lambda, whatever the lambda's value is -/
noncomputable def lamG (f : D → R D) : R D := open Classical in if ∀ L, f L = f .non then f .non else .no
theorem lamG_at (f : D → R D) (L : D) : lamG f = .no ∨ f L = lamG f := by
  unfold lamG
  split
  · rename_i h
    exact .inr (h L)
  · exact .inl rfl
theorem lamG_of {f : D → R D} {r : R D} (h : ∀ L, f L = r) : lamG f = r := by
  unfold lamG
  rw [if_pos fun L => (h L).trans (h .non).symm]
  exact h .non
/-- a promise of nothing -/
theorem fn_no {P : Program} {w : World} {K : PySem.W.Frag} {mg : Str → Option Value} {base : Heap} {T : List (Addr × Str)} {x qual : Str} {st : Stmt} {f : Addr} {fd : FuncData} {N ps : List Str} {k : Nat} (F : Fun K x qual st f fd) (Sc : FnScope N ps (defScope st)) :
    FnOk P w K mg base (L2.CX P w) k f fd ps (spD K T ps.length (fun _ _ => .no)) := by
  have h : ∀ vs H Q E, spD K T ps.length (fun _ _ => R.no) vs H Q E → False := fun vs H Q E ⟨_, _, _, _, _, _, z⟩ => z
  exact ⟨fun vs H Q E z => (h _ _ _ _ z).elim, fun A outer s H args us vs Q E _ _ _ _ z => (h _ _ _ _ z).elim⟩
end DL


/-! DLv: what is asked of a result (wR, wS), read off the terms. -/
namespace DL
open PySem PySem.Spec L2
open PyProof.Rows hiding St

/-- the result is a value, and Q holds of it and of the store -/
def wR {α : Type} (r : R α) (Q : α → List C → Prop) : Prop := match r with
  | .ok a m => Q a m
  | _ => False
def wS (r : RS) (N : Env → List C → Prop) (T : D → List C → Prop) (B : Env → List C → Prop) (Ct : Env → List C → Prop) : Prop := match r with
  | .nx ρ m => N ρ m
  | .rt d m => T d m
  | .bk ρ m => B ρ m
  | .ct ρ m => Ct ρ m
  | _ => False
section
variable {α β : Type} {Q : β → List C → Prop} {N B Ct : Env → List C → Prop} {T : D → List C → Prop}
theorem wR_ok {a : β} {m : List C} : wR (.ok a m) Q = Q a m := rfl
theorem wR_no : wR (R.no : R β) Q = False := rfl
theorem wR_exc {c : Addr} {ns : List Str} {vs : List D} {m : List C} : wR (R.exc c ns vs m : R β) Q = False := rfl
theorem wR_bind {r : R α} {k : α → List C → R β} : wR (r.bind k) Q = wR r fun a m => wR (k a m) Q := by cases r <;> rfl
theorem wR_ite {c : Prop} [Decidable c] {a b : R β} : wR (if c then a else b) Q = ((c → wR a Q) ∧ (¬ c → wR b Q)) := by
  by_cases h : c <;> simp [h]
theorem wR_iteN {c : Prop} [Decidable c] {a : R β} : wR (if c then a else .no) Q = (c ∧ wR a Q) := by
  by_cases h : c <;> simp [h, wR]
theorem wR_imp {r : R β} {Q' : β → List C → Prop} (h : wR r Q) (k : ∀ a m, Q a m → Q' a m) : wR r Q' := by
  cases r with
  | ok a m => exact k a m h
  | _ => exact h
theorem wR_ex {r : R β} (h : wR r Q) : ∃ a m, r = .ok a m ∧ Q a m := by
  cases r with
  | ok a m => exact ⟨a, m, rfl, h⟩
  | _ => exact h.elim
theorem wR_of {r : R β} {a : β} {m : List C} (e : r = .ok a m) (h : Q a m) : wR r Q := by rw [e]; exact h
theorem wS_nx {ρ : Env} {m : List C} : wS (.nx ρ m) N T B Ct = N ρ m := rfl
theorem wS_rt {d : D} {m : List C} : wS (.rt d m) N T B Ct = T d m := rfl
theorem wS_bk {ρ : Env} {m : List C} : wS (.bk ρ m) N T B Ct = B ρ m := rfl
theorem wS_ct {ρ : Env} {m : List C} : wS (.ct ρ m) N T B Ct = Ct ρ m := rfl
theorem wS_no : wS .no N T B Ct = False := rfl
theorem wS_go {r : R α} {ρ : Env} {k : α → List C → RS} : wS (r.go ρ k) N T B Ct = wR r fun a m => wS (k a m) N T B Ct := by cases r <;> rfl
theorem wS_seq {r : RS} {k : Env → List C → RS} : wS (r.seq k) N T B Ct = wS r (fun ρ m => wS (k ρ m) N T B Ct) T B Ct := by cases r <;> rfl
theorem wS_ite {c : Prop} [Decidable c] {a b : RS} : wS (if c then a else b) N T B Ct = ((c → wS a N T B Ct) ∧ (¬ c → wS b N T B Ct)) := by
  by_cases h : c <;> simp [h]
theorem wS_opt {o : Option Env} {k : Env → RS} {ρ : Env} (h : o = some ρ) : wS (RS.opt o k) N T B Ct = wS (k ρ) N T B Ct := by rw [h]; rfl
theorem wS_optS {k : Env → RS} {ρ : Env} : wS (RS.opt (some ρ) k) N T B Ct = wS (k ρ) N T B Ct := rfl
theorem wS_optM {k : List C → RS} {m : List C} : wS (RS.optM (some m) k) N T B Ct = wS (k m) N T B Ct := rfl
theorem wS_turn {r : RS} {k : Env → List C → RS} : wS (r.turn k) N T B Ct = wS r (fun ρ m => wS (k ρ m) N T B Ct) T N (fun ρ m => wS (k ρ m) N T B Ct) := by cases r <;> rfl
theorem wS_imp {r : RS} {N' B' Ct' : Env → List C → Prop} {T' : D → List C → Prop} (h : wS r N T B Ct) (h1 : ∀ ρ m, N ρ m → N' ρ m) (h2 : ∀ d m, T d m → T' d m) (h3 : ∀ ρ m, B ρ m → B' ρ m) (h4 : ∀ ρ m, Ct ρ m → Ct' ρ m) : wS r N' T' B' Ct' := by
  cases r with
  | nx ρ m => exact h1 _ _ h
  | rt d m => exact h2 _ _ h
  | bk ρ m => exact h3 _ _ h
  | ct ρ m => exact h4 _ _ h
  | _ => exact h
end
theorem wR_fn {n : Nat} {S : SS} {ds : List D} {m : List C} {Q : D → List C → Prop} : wR (fnD n S ds m) Q = wS (S (startD n ds) m) (fun _ m => Q .non m) Q (fun _ _ => False) (fun _ _ => False) := by
  unfold fnD
  cases S (startD n ds) m <;> rfl
/-- a loop by an invariant of what is left -/
theorem wS_loop {g : GS} {B : SS} {N Bk Ct : Env → List C → Prop} {T : D → List C → Prop} (I : List D → Env → List C → Prop) (hN : ∀ ρ m, I [] ρ m → N ρ m)
    (hB : ∀ d ds ρ m, I (d :: ds) ρ m → ∃ ρ1, g d ρ m = some ρ1 ∧ wS (B ρ1 m) (fun ρ2 m2 => I ds ρ2 m2) T N (fun ρ2 m2 => I ds ρ2 m2)) : ∀ {l : List D} {ρ : Env} {m : List C}, I l ρ m → wS (loopD g B l ρ m) N T Bk Ct
  | [], ρ, m, h => hN ρ m h
  | d :: ds, ρ, m, h => by
    obtain ⟨ρ1, h1, h2⟩ := hB d ds ρ m h
    unfold loopD
    rw [h1, wS_optS, wS_turn]
    exact wS_imp h2 (fun ρ2 m2 h => wS_loop I hN hB h) (fun _ _ h => h) (fun _ _ h => h) (fun ρ2 m2 h => wS_loop I hN hB h)
/-- a comprehension by an invariant of what is made and what is left -/
theorem wR_comp {g : GS} {vs : List Nat} {A : BS} {F : ES} {ρ : Env} {Q : List D → List C → Prop} (I : List D → List D → List C → Prop) (hN : ∀ ys m, I ys [] m → Q ys m)
    (hB : ∀ ys d ds m, I ys (d :: ds) m → ∃ ρ1, g d (wipeD ρ vs) m = some ρ1 ∧ wR (A ρ1 m) fun b m1 => if b = true then wR (F ρ1 m1) fun y m2 => I (ys ++ [y]) ds m2 else I ys ds m1) : ∀ {l ys : List D} {m : List C}, I ys l m → wR (compD g vs A F ρ l m) fun zs m' => Q (ys ++ zs) m'
  | [], ys, m, h => by
    unfold compD
    rw [wR_ok, List.append_nil]
    exact hN ys m h
  | d :: ds, ys, m, h => by
    obtain ⟨ρ1, h1, h2⟩ := hB ys d ds m h
    unfold compD
    rw [h1]
    show wR (compK _ _ _) _
    obtain ⟨b, m1, e1, h3⟩ := wR_ex h2
    rw [e1]
    cases b with
    | false => exact wR_comp I hN hB (by simpa using h3)
    | true =>
      rw [if_pos rfl] at h3
      obtain ⟨y, m2, e2, h4⟩ := wR_ex h3
      show wR (compE (F ρ1 m1) _) _
      rw [e2]
      show wR ((compD g vs A F ρ ds m2).bind _) _
      rw [wR_bind]
      refine wR_imp (wR_comp I hN hB h4) fun zs m3 h5 => ?_
      rw [wR_ok]
      simpa using h5
end DL


/-! DLw: what the operations make of plain values. -/
namespace DL
open PySem PySem.Spec L2
open PyProof.Rows hiding St
theorem eqD_int {i j : Int} {m : List C} : eqD (.int i) (.int j) m = .ok (.bl (decide (i = j))) m := by
  show (if SeqAt.shaped (.int i) && SeqAt.shaped (.int j) then R.ok (D.bl (PyData.eqv (.int i) (.int j))) m else .no) = _
  rw [if_pos (by rfl)]
  simp [PyData.eqv]
  rw [Bool.eq_iff_iff]
  simp
theorem neD_int {i j : Int} {m : List C} : neD (.int i) (.int j) m = .ok (.bl (!decide (i = j))) m := by
  show (if SeqAt.shaped (.int i) && SeqAt.shaped (.int j) then R.ok (D.bl (!PyData.eqv (.int i) (.int j))) m else .no) = _
  rw [if_pos (by rfl)]
  simp [PyData.eqv]
  rw [Bool.eq_iff_iff]
  simp
theorem eqD_bl {i j : Bool} {m : List C} : eqD (.bl i) (.bl j) m = .ok (.bl (decide (i = j))) m := by cases i <;> cases j <;> rfl
theorem neD_bl {i j : Bool} {m : List C} : neD (.bl i) (.bl j) m = .ok (.bl (!decide (i = j))) m := by cases i <;> cases j <;> rfl
theorem eqD_str {x y : Str} {m : List C} (hx : PyData.strOk x = true) (hy : PyData.strOk y = true) : eqD (.str x) (.str y) m = .ok (.bl (decide (x = y))) m := by
  have h : ∀ z, PyData.strOk z = true → SeqAt.shaped (.str z) = true := fun z hz => by
    simp [SeqAt.shaped, PyData.canLay0, PyData.depth, hz]
  show (if SeqAt.shaped (.str x) && SeqAt.shaped (.str y) then R.ok (D.bl (PyData.eqv (.str x) (.str y))) m else .no) = _
  rw [if_pos (by rw [h x hx, h y hy]; rfl)]
  simp [PyData.eqv]
  rw [Bool.eq_iff_iff]
  simp
theorem atI_nat {α : Type} {l : List α} {i : Int} {x : α} (h0 : 0 ≤ i) (h : l[i.toNat]? = some x) : atI l i = some x := by
  have hl : i.toNat < l.length := (List.getElem?_eq_some_iff.mp h).1
  unfold atI ixN
  rw [if_pos h0, if_pos (by omega)]
  exact h
theorem log2_le {n k : Nat} (h : n < 2 ^ k) : n.log2 ≤ k := by
  by_cases h0 : n = 0
  · subst h0
    simp
  · have := (Nat.log2_lt h0).mpr h
    omega
theorem mulOk_of {i j : Int} (h1 : i.natAbs < 2 ^ 400000) (h2 : j.natAbs < 2 ^ 400000) : mulOk i j = true := by
  have a := log2_le h1
  have b := log2_le h2
  unfold mulOk
  rw [decide_eq_true_eq]
  omega

section
variable {m : List C} {i j : Int} {x y : Str} {l k : List D} {b : Bool}
theorem addD_int : addD (.int i) (.int j) m = .ok (.int (i + j)) m := rfl
theorem addD_str : addD (.str x) (.str y) m = if fits (x.length + y.length) then .ok (.str (x ++ y)) m else .no := rfl
theorem addD_tup : addD (.tup l) (.tup k) m = if fits (l.length + k.length) then .ok (.tup (l ++ k)) m else .no := rfl
theorem addD_lst : addD (.lst l) (.lst k) m = if fits (l.length + k.length) then .ok (.lst (l ++ k)) m else .no := rfl
theorem subD_int : subD (.int i) (.int j) m = .ok (.int (i - j)) m := rfl
theorem mulD_int : mulD (.int i) (.int j) m = if mulOk i j then .ok (.int (i * j)) m else .no := rfl
theorem modD_int : modD (.int i) (.int j) m = if decide (0 < j) then .ok (.int (i % j)) m else .no := rfl
theorem fdivD_int : fdivD (.int i) (.int j) m = if divOk j then .ok (.int (i / j)) m else .no := rfl
theorem powD_int : powD (.int i) (.int j) m = if powOk i j then .ok (.int (i ^ j.toNat)) m else .no := rfl
theorem negD_int : negD (.int i) m = .ok (.int (-i)) m := rfl
theorem cmpD_int {p : Int → Int → Bool} : cmpD p (.int i) (.int j) m = .ok (.bl (p i j)) m := rfl
theorem cmp_lt : cmpD (fun i j => decide (i < j)) (.int i) (.int j) m = .ok (.bl (decide (i < j))) m := rfl
theorem cmp_le : cmpD (fun i j => decide (i ≤ j)) (.int i) (.int j) m = .ok (.bl (decide (i ≤ j))) m := rfl
theorem cmp_gt : cmpD (fun i j => decide (j < i)) (.int i) (.int j) m = .ok (.bl (decide (j < i))) m := rfl
theorem cmp_ge : cmpD (fun i j => decide (j ≤ i)) (.int i) (.int j) m = .ok (.bl (decide (j ≤ i))) m := rfl
theorem intD_int : DL.intD [.int i] m = .ok (.int i) m := rfl
theorem intD_bl : DL.intD [.bl b] m = .ok (.int (if b then 1 else 0)) m := rfl
theorem absD_int : absD [.int i] m = .ok (.int (if i < 0 then -i else i)) m := rfl
theorem lenD_lst : lenD [.lst l] m = .ok (.int l.length) m := rfl
theorem lenD_tup : lenD [.tup l] m = .ok (.int l.length) m := rfl
theorem lenD_str : lenD [.str x] m = if fits x.length then .ok (.int x.length) m else .no := rfl
theorem tru_bl : truD m (.bl b) = some b := rfl
theorem tru_non : truD m .non = some false := rfl
theorem tru_int : truD m (.int i) = some (i != 0) := rfl
theorem tru_tup : truD m (.tup l) = some (!l.isEmpty) := rfl
theorem tru_lst : truD m (.lst l) = some (!l.isEmpty) := rfl
theorem ixD_lst : ixD (.lst l) (.int i) m = match atI l i with
  | some v => .ok v m
  | none => .no := by
  show (match atI l i with
    | some v => R.ok v m
    | none => .no) = _
  rfl
theorem ixD_tup : ixD (.tup l) (.int i) m = match atI l i with
  | some v => .ok v m
  | none => .no := rfl
theorem max2D_int : max2D [.int i, .int j] m = .ok (.int (if j > i then j else i)) m := rfl
theorem tupleD_lst : tupleD [.lst l] m = .ok (.tup l) m := rfl
theorem tupleD_tup : tupleD [.tup l] m = .ok (.tup l) m := rfl
theorem listD_tup : DL.listD [.tup l] m = .ok (.lst l) m := rfl
theorem frzR_lst : frzR (.lst l) m = .ok (.lst l) m := rfl
theorem frzR_tup : frzR (.tup l) m = .ok (.tup l) m := rfl
variable {α : Type} {a a1 a2 a3 a4 : α} {r : List α}
theorem atI_0 : atI (a :: r) 0 = some a := atI_nat (by decide) rfl
theorem atI_1 : atI (a :: a1 :: r) 1 = some a1 := atI_nat (by decide) rfl
theorem atI_2 : atI (a :: a1 :: a2 :: r) 2 = some a2 := atI_nat (by decide) rfl
theorem atI_3 : atI (a :: a1 :: a2 :: a3 :: r) 3 = some a3 := atI_nat (by decide) rfl
theorem atI_4 : atI (a :: a1 :: a2 :: a3 :: a4 :: r) 4 = some a4 := atI_nat (by decide) rfl
theorem ixN5_0 : ixN 5 0 = some 0 := by decide
theorem ixN5_1 : ixN 5 1 = some 1 := by decide
theorem ixN5_2 : ixN 5 2 = some 2 := by decide
theorem ixN5_3 : ixN 5 3 = some 3 := by decide
theorem ixN5_4 : ixN 5 4 = some 4 := by decide
end
section
variable {m : List C} {n : Nat} {i : Int} {l : List D} {v : D}
theorem set_here (h : n < m.length) {c : C} : (m.set n c)[n]? = some c := List.getElem?_set_self h
theorem ixD_set (h : n < m.length) : ixD (.cell n) (.int i) (m.set n (.lst l)) = match atI l i with
  | some v => .ok v (m.set n (.lst l))
  | none => .no := by
  have e : seqOf (m.set n (.lst l)) (.cell n) = some l := by
    unfold seqOf lstOf
    simp only [set_here h]
  unfold ixD
  simp only [e]
  all_goals (cases atI l i <;> rfl)
theorem setD_set (h : n < m.length) : setD (.cell n) (.int i) v (m.set n (.lst l)) = (ixN l.length i).map fun j => m.set n (.lst (l.set j v)) := by
  unfold setD
  simp only [set_here h, List.set_set]
theorem cell_at {c : C} (h : m[n]? = some c) : ∃ m0 : List C, n < m0.length ∧ m = m0.set n c := by
  obtain ⟨h1, h2⟩ := List.getElem?_eq_some_iff.mp h
  exact ⟨m, h1, by rw [← h2, List.set_getElem_self]⟩
end
end DL


/-! DLx: the hand that a law draws from. -/
namespace DL
open PySem PySem.Spec L2
open PyProof.Rows hiding St

/-- the hand's list -/
abbrev handL (cells : List Int) (c1 c2 c3 c4 : Int) : C := .lst [.lst (cells.map D.int), .int c1, .int c2, .int c3, .int c4]
def HandC (b : Nat) (c : C) : Prop := ∃ (cells : List Int) (c1 c2 c3 c4 : Int), c = handL cells c1 c2 c3 c4 ∧
  cells.length ≤ 63 ∧ 0 ≤ c1 ∧ 0 ≤ c2 ∧ (∀ x ∈ cells, 0 ≤ x) ∧ 0 ≤ c3 ∧ c3 < 4294967296 ∧ 0 ≤ c4 ∧ c4 ≤ b
/-- the hand at the cell n: b draws were made at most -/
def Hand (n b : Nat) (m : List C) : Prop := ∃ c, m[n]? = some c ∧ HandC b c
theorem HandC.mono {b b' : Nat} {c : C} (h : HandC b c) (hb : b ≤ b') : HandC b' c := by
  obtain ⟨cells, c1, c2, c3, c4, e, h1, h2, h3, h4, h5, h6, h7, h8⟩ := h
  exact ⟨cells, c1, c2, c3, c4, e, h1, h2, h3, h4, h5, h6, h7, by omega⟩
theorem Hand.mono {n b b' : Nat} {m : List C} (h : Hand n b m) (hb : b ≤ b') : Hand n b' m := by
  obtain ⟨c, e, h⟩ := h
  exact ⟨c, e, h.mono hb⟩
theorem Hand.app {n b : Nat} {m g : List C} (h : Hand n b m) : Hand n b (m ++ g) := by
  obtain ⟨c, e, h⟩ := h
  exact ⟨c, by rw [List.getElem?_append_left (List.getElem?_eq_some_iff.mp e).1]; exact e, h⟩

section
variable (a1 b1 m1 a2 a3 m2 d1 e1 m3 d2 e2 m4 d3 : Int)
/-- a fresh cell is taken up -/
def drawA : SS :=
  (sIf (bAnd (bTest (eBin eqD (eBin ixD (eVar 0) (eC (.int 2))) (eC (.int 0)))) (bTest (eBin (cmpD fun i j => decide (i < j)) (eBin ixD (eVar 0) (eC (.int 1))) (eAr lenD (aCons (eBin ixD (eVar 0) (eC (.int 0))) aNil))))) (sSeq (sSet 2 (eBin ixD (eBin ixD (eVar 0) (eC (.int 0))) (eBin ixD (eVar 0) (eC (.int 1)))))
    (sSeq (sSub (eVar 0) (eC (.int 1)) (eBin addD (eBin ixD (eVar 0) (eC (.int 1))) (eC (.int 1))))
    (sSeq (sSub (eVar 0) (eC (.int 3)) (eBin modD (eAr DL.intD (aCons (eBin addD (eBin addD (eBin mulD (eBin ixD (eVar 0) (eC (.int 3))) (eC (.int a1))) (eVar 2)) (eC (.int b1))) aNil)) (eC (.int m1))))
    (sIf (bTest (eBin (cmpD fun i j => decide (j ≤ i)) (eVar 2) (eBin powD (eC (.int 10)) (eC (.int 18))))) (sSub (eVar 0) (eC (.int 2)) (eVar 2)) sSkip)))) sSkip)
/-- a digit of the held cell -/
def drawB : SS :=
  (sIf (bTest (eBin (cmpD fun i j => decide (j < i)) (eBin ixD (eVar 0) (eC (.int 2))) (eC (.int 0)))) (sSeq (sSet 3 (eBin modD (eAr DL.intD (aCons (eBin ixD (eVar 0) (eC (.int 2))) aNil)) (eVar 1)))
    (sSeq (sSub (eVar 0) (eC (.int 2)) (eBin fdivD (eBin ixD (eVar 0) (eC (.int 2))) (eVar 1)))
    (sRet (eVar 3)))) sSkip)
/-- a number of the hand's own -/
def drawC1 : SS := sSub (eVar 0) (eC (.int 4)) (eBin addD (eBin ixD (eVar 0) (eC (.int 4))) (eC (.int 1)))
def drawC2 : SS := sSet 4 (eBin modD (eAr DL.intD (aCons (eBin mulD (eAr DL.intD (aCons (eBin addD (eBin ixD (eVar 0) (eC (.int 3))) (eBin mulD (eC (.int a2)) (eBin ixD (eVar 0) (eC (.int 4))))) aNil)) (eC (.int a3))) aNil)) (eC (.int m2)))
def drawC3 : SS := sSet 4 (eBin modD (eAr DL.intD (aCons (eBin mulD (eVar 4) (eBin addD (eBin fdivD (eVar 4) (eC (.int d1))) (eC (.int e1)))) aNil)) (eC (.int m3)))
def drawC5 : SS := sRet (eBin modD (eAr DL.intD (aCons (eBin fdivD (eVar 4) (eC (.int d3))) aNil)) (eVar 1))
def drawC : SS := sSeq drawC1 (sSeq (drawC2 a2 a3 m2) (sSeq (drawC3 d1 e1 m3) (sSeq (drawC3 d2 e2 m4) (drawC5 d3))))
def drawS : SS := sSeq (drawA a1 b1 m1) (sSeq drawB (drawC a2 a3 m2 d1 e1 m3 d2 e2 m4 d3))
def small32 (i : Int) : Bool := decide (0 < i) && decide (i < 4294967296)
def drawK : Bool := small32 a1 && small32 b1 && small32 m1 && small32 a2 && small32 a3 && small32 m2 && small32 d1 && small32 e1 && small32 m3 && small32 d2 && small32 e2 && small32 m4 && small32 d3
end
theorem mulOk_small {i j : Int} (h0 : 0 ≤ i) (h1 : i < 1000000000000000000000000000000) (h2 : 0 ≤ j) (h3 : j < 1000000000000000000000000000000) : mulOk i j = true := by
  refine mulOk_of ?_ ?_
  · refine Nat.lt_of_lt_of_le (show i.natAbs < 2 ^ 100 by omega) (Nat.pow_le_pow_right (by decide) (by decide))
  · refine Nat.lt_of_lt_of_le (show j.natAbs < 2 ^ 100 by omega) (Nat.pow_le_pow_right (by decide) (by decide))
theorem divOk_small {j : Int} (h2 : 0 < j) (h3 : j < 1000000000000000000000000000000) : divOk j = true := by
  have := log2_le (show j.natAbs < 2 ^ 100 by omega)
  unfold divOk
  rw [Bool.and_eq_true, decide_eq_true_eq, decide_eq_true_eq]
  exact ⟨h2, by omega⟩
section
variable {a1 b1 m1 a2 a3 m2 d1 e1 m3 d2 e2 m4 d3 : Int}
set_option maxHeartbeats 1000000 in
theorem drawA_ok {n b : Nat} {m0 : List C} {k : Int} {c : C} {N B Ct : Env → List C → Prop} {T : D → List C → Prop} (hn : n < m0.length) (h : HandC b c) (h1 : small32 a1 = true) (h2 : small32 b1 = true) (h3 : small32 m1 = true)
    (hN : ∀ e c', HandC b c' → N [some (.cell n), some (.int k), e, none, none] (m0.set n c')) : wS (drawA a1 b1 m1 [some (.cell n), some (.int k), none, none, none] (m0.set n c)) N T B Ct := by
  obtain ⟨cells, c1, c2, c3, c4, rfl, k1, k2, k3, k4, k5, k6, k7, k8⟩ := h
  unfold small32 at h1 h2 h3
  simp only [Bool.and_eq_true, decide_eq_true_eq] at h1 h2 h3
  unfold drawA
  have i0 := fun l => ixD_set (m := m0) (l := l) (i := 0) hn
  simp only [sIf, wS_go, bAnd, bOr, bNot, bTest, bTru, bYes, eBin, eUn, eAr, eVar, eC, aCons, aNil, wR_bind, wR_ok, List.getElem?_cons_zero, List.getElem?_cons_succ, decide_true, decide_false, Bool.not_true, Bool.not_false, Bool.false_eq_true, if_true, if_false, reduceIte, ixD_set hn, atI_0, atI_1, atI_2, addD_int, subD_int, mulD_int, modD_int, fdivD_int, powD_int, negD_int, cmp_lt, cmp_le, cmp_gt, cmp_ge, intD_int, intD_bl, absD_int, lenD_lst, lenD_tup, eqD_int, neD_int, eqD_bl, neD_bl, List.length_map]
  have hand0 : HandC b (handL cells c1 c2 c3 c4) := ⟨cells, c1, c2, c3, c4, rfl, k1, k2, k3, k4, k5, k6, k7, k8⟩
  by_cases q : c2 = 0
  · by_cases q1 : c1 < cells.length
    · have hc : cells[c1.toNat]? = some (cells[c1.toNat]'(by omega)) := List.getElem?_eq_getElem _
      generalize cells[c1.toNat]'(by omega) = x at hc
      have hx : 0 ≤ x := k4 x (List.mem_of_getElem? hc)
      have ha : atI (cells.map D.int) c1 = some (.int x) := atI_nat k2 (by rw [List.getElem?_map, hc]; rfl)
      have hm1 : mulOk c3 a1 = true := mulOk_small (by omega) (by omega) (by omega) (by omega)
      have hp : powOk 10 18 = true := by decide
      simp only [q, q1, bAnd, bOr, bNot, bTest, bTru, bYes, eBin, eUn, eAr, eVar, eC, aCons, aNil, wR_bind, wR_ok, List.getElem?_cons_zero, List.getElem?_cons_succ, decide_true, decide_false, Bool.not_true, Bool.not_false, Bool.false_eq_true, if_true, if_false, reduceIte, ixD_set hn, atI_0, atI_1, atI_2, addD_int, subD_int, mulD_int, modD_int, fdivD_int, powD_int, negD_int, cmp_lt, cmp_le, cmp_gt, cmp_ge, intD_int, intD_bl, absD_int, lenD_lst, lenD_tup, eqD_int, neD_int, eqD_bl, neD_bl, List.length_map, wS_go]
      simp only [q, q1, decide_true, if_true, sSeq, wS_seq, sSet, wS_go, eBin, eAr, eVar, eC, aCons, aNil, wR_bind, wR_ok, wS_nx, List.getElem?_cons_zero, List.getElem?_cons_succ, List.set_cons_zero, List.set_cons_succ, ixD_set hn, ixD_lst, atI_0, atI_1, ha]
      simp only [sSub, wS_go, eBin, eAr, eVar, eC, aCons, aNil, wR_bind, wR_ok, wS_nx, List.getElem?_cons_zero, List.getElem?_cons_succ, List.set_cons_zero, List.set_cons_succ, ixD_set hn, setD_set hn, atI_0, atI_1, atI_3, addD_int, List.length_cons, List.length_nil, Nat.reduceAdd, ixN5_1, ixN5_3, Option.map_some, wS_optM, mulD_int, hm1, if_true, intD_int, modD_int, h3, decide_true]
      simp only [sIf, bTest, wS_go, eBin, eAr, eVar, eC, aCons, aNil, wR_bind, wR_ok, wS_nx, List.getElem?_cons_zero, List.getElem?_cons_succ, powD_int, hp, if_true, cmpD_int]
      have fin : ∀ c2', 0 ≤ c2' → HandC b (handL cells (c1 + 1) c2' ((c3 * a1 + x + b1) % m1) c4) := fun c2' h0 =>
        ⟨cells, c1 + 1, c2', _, c4, rfl, k1, by omega, h0, k4, Int.emod_nonneg _ (by omega), Int.lt_trans (Int.emod_lt_of_pos _ h3.1) h3.2, k7, k8⟩
      by_cases q2 : (10 : Int) ^ (18 : Int).toNat ≤ x
      · simp only [q2, decide_true, if_true, sSub, wS_go, eVar, eC, wR_ok, List.getElem?_cons_zero, List.getElem?_cons_succ, setD_set hn, List.length_cons, List.length_nil, Nat.reduceAdd, ixN5_2, Option.map_some, wS_optM, wS_nx]
        exact hN _ _ (fin x hx)
      · simp only [q2, decide_false, Bool.false_eq_true, if_false, sSkip, wS_nx]
        exact hN _ _ (fin 0 (by omega))
    · simp only [q, q1, bAnd, bOr, bNot, bTest, bTru, bYes, eBin, eUn, eAr, eVar, eC, aCons, aNil, wR_bind, wR_ok, List.getElem?_cons_zero, List.getElem?_cons_succ, decide_true, decide_false, Bool.not_true, Bool.not_false, Bool.false_eq_true, if_true, if_false, reduceIte, ixD_set hn, atI_0, atI_1, atI_2, addD_int, subD_int, mulD_int, modD_int, fdivD_int, powD_int, negD_int, cmp_lt, cmp_le, cmp_gt, cmp_ge, intD_int, intD_bl, absD_int, lenD_lst, lenD_tup, eqD_int, neD_int, eqD_bl, neD_bl, List.length_map, wS_go, sSkip, wS_nx]
      subst q
      exact hN _ _ hand0
  · simp only [q, decide_false, Bool.false_eq_true, if_false, wR_ok, sSkip, wS_nx]
    exact hN _ _ hand0
set_option maxHeartbeats 1000000 in
theorem drawB_ok {n b : Nat} {m0 : List C} {k : Int} {c : C} {e : Option D} {N B Ct : Env → List C → Prop} {T : D → List C → Prop} (hn : n < m0.length) (h : HandC b c) (hk : 1 ≤ k) (hk2 : k < 4294967296)
    (hN : N [some (.cell n), some (.int k), e, none, none] (m0.set n c)) (hT : ∀ j c', 0 ≤ j → j < k → HandC b c' → T (.int j) (m0.set n c')) : wS (drawB [some (.cell n), some (.int k), e, none, none] (m0.set n c)) N T B Ct := by
  obtain ⟨cells, c1, c2, c3, c4, rfl, k1, k2, k3, k4, k5, k6, k7, k8⟩ := h
  have hd : divOk k = true := divOk_small (by omega) (by omega)
  have hk0 : 0 < k := by omega
  unfold drawB
  simp only [sIf, bTest, wS_go, eBin, eAr, eVar, eC, aCons, aNil, wR_bind, wR_ok, List.getElem?_cons_zero, List.getElem?_cons_succ, ixD_set hn, atI_2, cmpD_int]
  by_cases q : 0 < c2
  · simp only [q, decide_true, if_true, sSeq, wS_seq, sSet, sSub, sRet, wS_go, eBin, eAr, eVar, eC, aCons, aNil, wR_bind, wR_ok, wS_nx, wS_rt, List.getElem?_cons_zero, List.getElem?_cons_succ, List.set_cons_zero, List.set_cons_succ, ixD_set hn, setD_set hn, atI_2, intD_int, modD_int, hk0, fdivD_int, hd, List.length_cons, List.length_nil, Nat.reduceAdd, ixN5_2, Option.map_some, wS_optM]
    exact hT _ _ (Int.emod_nonneg _ (by omega)) (Int.emod_lt_of_pos _ hk0) ⟨cells, c1, c2 / k, c3, c4, rfl, k1, k2, Int.ediv_nonneg k3 (by omega), k4, k5, k6, k7, k8⟩
  · simp only [q, decide_false, Bool.false_eq_true, if_false, sSkip, wS_nx]
    exact hN
section
variable {n b : Nat} {m0 : List C} {k : Int} {e f : Option D} {cells : List Int} {c1 c2 c3 c4 x : Int} {m : List C} {N B Ct : Env → List C → Prop} {T : D → List C → Prop}
theorem drawC1_ok (hn : n < m0.length) (hN : N [some (.cell n), some (.int k), e, none, f] (m0.set n (handL cells c1 c2 c3 (c4 + 1)))) : wS (drawC1 [some (.cell n), some (.int k), e, none, f] (m0.set n (handL cells c1 c2 c3 c4))) N T B Ct := by
  unfold drawC1
  simp only [sSub, wS_go, bAnd, bOr, bNot, bTest, bTru, bYes, eBin, eUn, eAr, eVar, eC, aCons, aNil, wR_bind, wR_ok, List.getElem?_cons_zero, List.getElem?_cons_succ, decide_true, decide_false, Bool.not_true, Bool.not_false, Bool.false_eq_true, if_true, if_false, reduceIte, ixD_set hn, setD_set hn, atI_0, atI_1, atI_2, atI_3, atI_4, ixN5_0, ixN5_1, ixN5_2, ixN5_3, ixN5_4, List.length_cons, List.length_nil, Nat.reduceAdd, Option.map_some, addD_int, wS_optM, wS_nx, List.set_cons_zero, List.set_cons_succ]
  exact hN
theorem drawC2_ok (hn : n < m0.length) (hm1 : mulOk a2 c4 = true) (hm2 : mulOk (c3 + a2 * c4) a3 = true) (h4 : 0 < m2) (hN : N [some (.cell n), some (.int k), e, none, some (.int ((c3 + a2 * c4) * a3 % m2))] (m0.set n (handL cells c1 c2 c3 c4))) :
    wS (drawC2 a2 a3 m2 [some (.cell n), some (.int k), e, none, f] (m0.set n (handL cells c1 c2 c3 c4))) N T B Ct := by
  unfold drawC2
  simp only [sSet, wS_go, bAnd, bOr, bNot, bTest, bTru, bYes, eBin, eUn, eAr, eVar, eC, aCons, aNil, wR_bind, wR_ok, List.getElem?_cons_zero, List.getElem?_cons_succ, decide_true, decide_false, Bool.not_true, Bool.not_false, Bool.false_eq_true, if_true, if_false, reduceIte, ixD_set hn, atI_0, atI_1, atI_2, atI_3, atI_4, ixN5_0, ixN5_1, ixN5_2, ixN5_3, ixN5_4, List.length_cons, List.length_nil, Nat.reduceAdd, Option.map_some, addD_int, mulD_int, hm1, hm2, intD_int, modD_int, h4, wS_nx, List.set_cons_zero, List.set_cons_succ]
  exact hN
theorem drawC3_ok (hd : divOk d1 = true) (hm : mulOk x (x / d1 + e1) = true) (h4 : 0 < m3) (hN : N [some (.cell n), some (.int k), e, none, some (.int (x * (x / d1 + e1) % m3))] m) :
    wS (drawC3 d1 e1 m3 [some (.cell n), some (.int k), e, none, some (.int x)] m) N T B Ct := by
  unfold drawC3
  simp only [sSet, wS_go, bAnd, bOr, bNot, bTest, bTru, bYes, eBin, eUn, eAr, eVar, eC, aCons, aNil, wR_bind, wR_ok, List.getElem?_cons_zero, List.getElem?_cons_succ, decide_true, decide_false, Bool.not_true, Bool.not_false, Bool.false_eq_true, if_true, if_false, reduceIte, addD_int, mulD_int, fdivD_int, hm, hd, intD_int, modD_int, h4, wS_nx, List.set_cons_zero, List.set_cons_succ]
  exact hN
theorem drawC5_ok (hd : divOk d3 = true) (h4 : 0 < k) (hT : T (.int (x / d3 % k)) m) :
    wS (drawC5 d3 [some (.cell n), some (.int k), e, none, some (.int x)] m) N T B Ct := by
  unfold drawC5
  simp only [sRet, wS_go, bAnd, bOr, bNot, bTest, bTru, bYes, eBin, eUn, eAr, eVar, eC, aCons, aNil, wR_bind, wR_ok, List.getElem?_cons_zero, List.getElem?_cons_succ, decide_true, decide_false, Bool.not_true, Bool.not_false, Bool.false_eq_true, if_true, if_false, reduceIte, fdivD_int, hd, intD_int, modD_int, h4, wS_rt]
  exact hT
theorem drawC_ok {c : C} (hn : n < m0.length) (h : HandC b c) (hb : b < 100000000) (hk : 1 ≤ k) (hk2 : k < 4294967296)
    (h2 : small32 a2 = true) (h3 : small32 a3 = true) (h4 : small32 m2 = true) (h5 : small32 d1 = true) (h6 : small32 e1 = true) (h7 : small32 m3 = true) (h8 : small32 d2 = true) (h9 : small32 e2 = true) (h10 : small32 m4 = true) (h11 : small32 d3 = true)
    (hT : ∀ j c', 0 ≤ j → j < k → HandC (b + 1) c' → T (.int j) (m0.set n c')) : wS (drawC a2 a3 m2 d1 e1 m3 d2 e2 m4 d3 [some (.cell n), some (.int k), e, none, f] (m0.set n c)) N T B Ct := by
  obtain ⟨cells, c1, c2, c3, c4, rfl, k1, k2, k3, k4, k5, k6, k7, k8⟩ := h
  unfold small32 at h2 h3 h4 h5 h6 h7 h8 h9 h10 h11
  simp only [Bool.and_eq_true, decide_eq_true_eq] at h2 h3 h4 h5 h6 h7 h8 h9 h10 h11
  have mulB : ∀ {x y X Y : Int}, 0 ≤ x → x ≤ X → 0 ≤ y → y ≤ Y → 0 ≤ x * y ∧ x * y ≤ X * Y := fun h1 h2 h3 h4 => ⟨Int.mul_nonneg h1 h3, Int.mul_le_mul h2 h4 h3 (Int.le_trans h1 h2)⟩
  obtain ⟨u1, u2⟩ := mulB (x := a2) (y := c4 + 1) (X := 4294967296) (Y := 100000001) (by omega) (by omega) (by omega) (by omega)
  have step : ∀ (x d e : Int), 0 ≤ x → x < 4294967296 → 0 < d → 0 < e → e < 4294967296 → mulOk x (x / d + e) = true := fun x d e g1 g2 g3 g4 g5 => by
    have p1 : 0 ≤ x / d := Int.ediv_nonneg g1 (by omega)
    have p2 : x / d ≤ x := Int.ediv_le_self _ g1
    exact mulOk_small g1 (by omega) (by omega) (by omega)
  unfold drawC
  show wS ((drawC1 _ _).seq _) _ _ _ _
  rw [wS_seq]
  refine drawC1_ok hn ?_
  show wS ((drawC2 _ _ _ _ _).seq _) _ _ _ _
  rw [wS_seq]
  refine drawC2_ok hn (mulOk_small (by omega) (by omega) (by omega) (by omega)) (mulOk_small (by omega) (by omega) (by omega) (by omega)) h4.1 ?_
  have r1 := Int.emod_nonneg ((c3 + a2 * (c4 + 1)) * a3) (show m2 ≠ 0 by omega)
  have r2 := Int.emod_lt_of_pos ((c3 + a2 * (c4 + 1)) * a3) h4.1
  generalize (c3 + a2 * (c4 + 1)) * a3 % m2 = x1 at r1 r2
  show wS ((drawC3 _ _ _ _ _).seq _) _ _ _ _
  rw [wS_seq]
  refine drawC3_ok (divOk_small h5.1 (by omega)) (step x1 d1 e1 r1 (by omega) h5.1 h6.1 h6.2) h7.1 ?_
  have r3 := Int.emod_nonneg (x1 * (x1 / d1 + e1)) (show m3 ≠ 0 by omega)
  have r4 := Int.emod_lt_of_pos (x1 * (x1 / d1 + e1)) h7.1
  generalize x1 * (x1 / d1 + e1) % m3 = x2 at r3 r4
  show wS ((drawC3 _ _ _ _ _).seq _) _ _ _ _
  rw [wS_seq]
  refine drawC3_ok (divOk_small h8.1 (by omega)) (step x2 d2 e2 r3 (by omega) h8.1 h9.1 h9.2) h10.1 ?_
  exact drawC5_ok (divOk_small h11.1 (by omega)) (by omega) (hT _ _ (Int.emod_nonneg _ (by omega)) (Int.emod_lt_of_pos _ (by omega)) ⟨cells, c1, c2, c3, c4 + 1, rfl, k1, k2, k3, k4, k5, k6, by omega, by omega⟩)
end
/-- a draw: a number below k, the hand a hand still -/
theorem draw_ok {n b : Nat} {m : List C} {k : Int} (hK : drawK a1 b1 m1 a2 a3 m2 d1 e1 m3 d2 e2 m4 d3 = true) (h : Hand n b m) (hb : b < 100000000) (hk : 1 ≤ k) (hk2 : k < 4294967296) (Q : D → List C → Prop)
    (hQ : ∀ (j : Int) (c' : C), 0 ≤ j → j < k → HandC (b + 1) c' → Q (.int j) (m.set n c')) : wR (fnD 5 (drawS a1 b1 m1 a2 a3 m2 d1 e1 m3 d2 e2 m4 d3) [.cell n, .int k] m) Q := by
  obtain ⟨c, hc, h⟩ := h
  obtain ⟨m0, hn, rfl⟩ := cell_at hc
  unfold drawK at hK
  simp only [Bool.and_eq_true] at hK
  obtain ⟨⟨⟨⟨⟨⟨⟨⟨⟨⟨⟨⟨g1, g2⟩, g3⟩, g4⟩, g5⟩, g6⟩, g7⟩, g8⟩, g9⟩, g10⟩, g11⟩, g12⟩, g13⟩ := hK
  rw [wR_fn]
  show wS ((drawA a1 b1 m1 [some (.cell n), some (.int k), none, none, none] (m0.set n c)).seq _) _ _ _ _
  rw [wS_seq]
  refine drawA_ok hn h g1 g2 g3 fun e c' hc' => ?_
  show wS ((drawB _ _).seq _) _ _ _ _
  rw [wS_seq]
  refine drawB_ok hn hc' hk hk2 ?_ fun j c' h1 h2 h3 => ?_
  · refine drawC_ok hn hc' hb hk hk2 g4 g5 g6 g7 g8 g9 g10 g11 g12 g13 fun j c' h1 h2 h3 => ?_
    have := hQ j c' h1 h2 h3
    rwa [List.set_set] at this
  · have := hQ j c' h1 h2 (h3.mono (Nat.le_succ _))
    rwa [List.set_set] at this
end
end DL


/-! P02: marks as sorted lists of pairs; dicts of ints as lists of pairs. -/
namespace DL
open PySem PySem.Spec L2
open PyProof.Rows hiding St

abbrev Pr := List (Int × Int)
/-- a dict's value at k, 0 where it has none -/
def getP (p : Pr) (k : Int) : Int := match p.find? fun z => decide (z.1 = k) with
  | some z => z.2
  | none => 0
def keysP (p : Pr) : List Int := p.map (·.1)
def putP (p : Pr) (k v : Int) : Pr := if k ∈ keysP p then p.map fun z => if z.1 = k then (z.1, v) else z else p ++ [(k, v)]
theorem getP_nil {k : Int} : getP [] k = 0 := rfl
theorem getP_cons {a v k : Int} {p : Pr} : getP ((a, v) :: p) k = if a = k then v else getP p k := by
  unfold getP
  rw [List.find?_cons]
  by_cases h : a = k <;> simp [h]
theorem getP_not {p : Pr} {k : Int} (h : k ∉ keysP p) : getP p k = 0 := by
  induction p with
  | nil => rfl
  | cons z p ih =>
    obtain ⟨a, v⟩ := z
    unfold keysP at h
    rw [List.map_cons, List.mem_cons, not_or] at h
    rw [getP_cons, if_neg (fun e => h.1 e.symm)]
    exact ih h.2
theorem getP_mem {p : Pr} {k v : Int} (hn : (keysP p).Nodup) (h : (k, v) ∈ p) : getP p k = v := by
  induction p with
  | nil => cases h
  | cons z p ih =>
    obtain ⟨a, b⟩ := z
    unfold keysP at hn
    rw [List.map_cons, List.nodup_cons] at hn
    rw [getP_cons]
    rcases List.mem_cons.mp h with e | h
    · cases e
      rw [if_pos rfl]
    · rw [if_neg, ih hn.2 h]
      intro e
      subst e
      exact hn.1 (List.mem_map.mpr ⟨_, h, rfl⟩)
theorem mem_getP {p : Pr} {k : Int} (h : k ∈ keysP p) : (k, getP p k) ∈ p := by
  induction p with
  | nil => cases h
  | cons z p ih =>
    obtain ⟨a, b⟩ := z
    rw [getP_cons]
    by_cases e : a = k
    · subst e
      rw [if_pos rfl]
      exact List.mem_cons_self
    · rw [if_neg e]
      refine List.mem_cons_of_mem _ (ih ?_)
      unfold keysP at h
      rw [List.map_cons, List.mem_cons] at h
      exact h.resolve_left fun z => e z.symm
theorem getP_app {p r : Pr} {k : Int} : getP (p ++ r) k = if k ∈ keysP p then getP p k else getP r k := by
  induction p with
  | nil => simp [keysP]
  | cons z p ih =>
    obtain ⟨a, b⟩ := z
    rw [List.cons_append, getP_cons, getP_cons, ih]
    by_cases e : a = k
    · simp [e, keysP]
    · have : (k ∈ keysP ((a, b) :: p)) ↔ k ∈ keysP p := by
        unfold keysP
        rw [List.map_cons, List.mem_cons]
        exact ⟨fun h => h.resolve_left fun z => e z.symm, .inr⟩
      simp [e, this]
theorem keys_put {p : Pr} {k v : Int} : keysP (putP p k v) = if k ∈ keysP p then keysP p else keysP p ++ [k] := by
  unfold putP
  split
  · unfold keysP
    rw [List.map_map]
    refine List.map_congr_left fun z _ => ?_
    show (if z.1 = k then (z.1, v) else z).1 = z.1
    split <;> rfl
  · simp [keysP]
theorem nodup_put {p : Pr} {k v : Int} (h : (keysP p).Nodup) : (keysP (putP p k v)).Nodup := by
  rw [keys_put]
  split
  · exact h
  · rename_i hk
    rw [List.nodup_append]
    exact ⟨h, List.nodup_cons.mpr ⟨(fun z => nomatch z), List.nodup_nil⟩, fun a ha b hb e => hk (by rw [← List.mem_singleton.mp hb, ← e]; exact ha)⟩
theorem getP_put {p : Pr} {k v j : Int} : getP (putP p k v) j = if k = j then v else getP p j := by
  unfold putP
  split
  · rename_i hk
    have key : ∀ q : Pr, getP (q.map fun z => if z.1 = k then (z.1, v) else z) j = if k = j ∧ k ∈ keysP q then v else getP q j := by
      intro q
      induction q with
      | nil => simp [getP_nil, keysP]
      | cons z q ih =>
        obtain ⟨a, b⟩ := z
        rw [List.map_cons]
        by_cases e : a = k
        · subst e
          rw [if_pos rfl, getP_cons, getP_cons, ih]
          by_cases e2 : a = j <;> simp [e2, keysP]
        · rw [if_neg e, getP_cons, getP_cons, ih]
          by_cases e2 : a = j
          · subst e2
            rw [if_pos rfl, if_pos rfl, if_neg (fun z => e z.1.symm)]
          · have : (k ∈ keysP ((a, b) :: q)) ↔ k ∈ keysP q := by
              unfold keysP
              rw [List.map_cons, List.mem_cons]
              exact ⟨fun h => h.resolve_left fun z => e z.symm, .inr⟩
            simp [e2, this]
    rw [key]
    simp [hk]
  · rename_i hk
    rw [getP_app]
    by_cases e : k = j
    · subst e
      simp [hk, getP_cons]
    · rw [if_neg e, getP_cons, if_neg e, getP_nil]
      split
      · rfl
      · rename_i h
        exact (getP_not h).symm

/-! ### marks -/
/-- sorted by the first, every second at least 1 -/
structure Mk (p : Pr) : Prop where
  s : (keysP p).Pairwise (· < ·)
  v : ∀ z ∈ p, 1 ≤ z.2
theorem Mk.nodup {p : Pr} (h : Mk p) : (keysP p).Nodup := h.s.imp fun h => by omega
theorem Mk.pos {p : Pr} (h : Mk p) {k : Int} (hk : k ∈ keysP p) : 1 ≤ getP p k := h.v _ (mem_getP hk)
theorem Mk.ge {p : Pr} (h : Mk p) (k : Int) : 0 ≤ getP p k := by
  by_cases hk : k ∈ keysP p
  · have := h.pos hk
    omega
  · rw [getP_not hk]
    omega
theorem Mk.mem {p : Pr} (h : Mk p) {k : Int} : k ∈ keysP p ↔ 1 ≤ getP p k := by
  refine ⟨h.pos, fun h1 => ?_⟩
  cases Classical.em (k ∈ keysP p) with
  | inl h => exact h
  | inr h => rw [getP_not h] at h1; omega
theorem pairs_of_keys {p : Pr} (h : (keysP p).Nodup) : p = (keysP p).map fun k => (k, getP p k) := by
  unfold keysP
  rw [List.map_map]
  conv => lhs; rw [← List.map_id p]
  refine List.map_congr_left fun z hz => ?_
  obtain ⟨a, b⟩ := z
  show (a, b) = (a, getP p a)
  rw [getP_mem h hz]
/-- marks are told by their values -/
theorem Mk.ext {p q : Pr} (hp : Mk p) (hq : Mk q) (h : ∀ k, getP p k = getP q k) : p = q := by
  have hk : keysP p = keysP q := strict_uniq hp.s hq.s fun k => by rw [hp.mem, hq.mem, h]
  rw [pairs_of_keys hp.nodup, pairs_of_keys hq.nodup, hk]
  exact List.map_congr_left fun k _ => by rw [h]
/-- a dict's pairs, sorted -/
theorem isort_mk {p : Pr} (hn : (keysP p).Nodup) (hv : ∀ z ∈ p, 1 ≤ z.2) : Mk (isort p) ∧ ∀ k, getP (isort p) k = getP p k := by
  have hp : (isort p).Perm p := List.mergeSort_perm p pairLe
  have hk : (keysP (isort p)).Perm (keysP p) := hp.map _
  have hs : (isort p).Pairwise fun a b => pairLe a b = true := List.pairwise_mergeSort pairLe_trans pairLe_total p
  have hn2 : (keysP (isort p)).Nodup := hk.nodup_iff.mpr hn
  refine ⟨⟨?_, fun z hz => hv z (hp.mem_iff.mp hz)⟩, fun k => ?_⟩
  · unfold keysP at hn2 ⊢
    rw [List.pairwise_map]
    have h2 : (isort p).Pairwise fun a b => a.1 ≠ b.1 := List.pairwise_map.mp hn2
    refine (hs.and h2).imp fun {a b} h => ?_
    obtain ⟨h1, h2⟩ := h
    unfold pairLe at h1
    rw [Bool.not_eq_true'] at h1
    have := SrtO.lexB_no.mp h1
    omega
  · by_cases h : k ∈ keysP p
    · exact getP_mem hn2 (hp.mem_iff.mpr (mem_getP h))
    · rw [getP_not h, getP_not fun z => h (hk.mem_iff.mp z)]
/-- the greater of both, at every place -/
def joinP (a : Pr) : Pr → Pr
  | [] => a
  | (k, v) :: b => joinP (putP a k (max v (getP a k))) b
theorem joinP_spec : ∀ {b a : Pr}, (keysP a).Nodup → (∀ z ∈ a, 1 ≤ z.2) → (keysP b).Nodup → (∀ z ∈ b, 1 ≤ z.2) → (keysP (joinP a b)).Nodup ∧ (∀ z ∈ joinP a b, 1 ≤ z.2) ∧ ∀ k, getP (joinP a b) k = max (getP a k) (getP b k)
  | [], a, ha, va, _, _ => ⟨ha, va, fun k => by
      show getP a k = max (getP a k) 0
      have : 0 ≤ getP a k := by
        by_cases h : k ∈ keysP a
        · have := va _ (mem_getP h)
          simp at this
          omega
        · rw [getP_not h]; omega
      omega⟩
  | (k, v) :: b, a, ha, va, hb, vb => by
    unfold keysP at hb
    rw [List.map_cons, List.nodup_cons] at hb
    have v1 : 1 ≤ v := vb (k, v) List.mem_cons_self
    have va' : ∀ z ∈ putP a k (max v (getP a k)), 1 ≤ z.2 := by
      intro z hz
      unfold putP at hz
      split at hz
      · obtain ⟨y, hy, e⟩ := List.mem_map.mp hz
        split at e
        · subst e
          show 1 ≤ max v (getP a k)
          omega
        · subst e
          exact va y hy
      · rcases List.mem_append.mp hz with h | h
        · exact va z h
        · rw [List.mem_singleton.mp h]
          show 1 ≤ max v (getP a k)
          omega
    obtain ⟨h1, h2, h3⟩ := joinP_spec (b := b) (nodup_put (v := max v (getP a k)) ha) va' hb.2 fun z hz => vb z (List.mem_cons_of_mem _ hz)
    refine ⟨h1, h2, fun j => ?_⟩
    show getP (joinP (putP a k (max v (getP a k))) b) j = _
    rw [h3, getP_put, getP_cons]
    by_cases e : k = j
    · subst e
      have : getP b k = 0 := getP_not hb.1
      rw [if_pos rfl, if_pos rfl, this]
      omega
    · rw [if_neg e, if_neg e]
def bothP (a b : Pr) : Pr := isort (joinP a b)
theorem bothP_mk {a b : Pr} (ha : Mk a) (hb : Mk b) : Mk (bothP a b) ∧ ∀ k, getP (bothP a b) k = max (getP a k) (getP b k) := by
  obtain ⟨h1, h2, h3⟩ := joinP_spec ha.nodup ha.v hb.nodup hb.v
  obtain ⟨h4, h5⟩ := isort_mk h1 h2
  exact ⟨h4, fun k => by rw [bothP, h5, h3]⟩
theorem bothP_comm {a b : Pr} (ha : Mk a) (hb : Mk b) : bothP a b = bothP b a := by
  obtain ⟨h1, h2⟩ := bothP_mk ha hb
  obtain ⟨h3, h4⟩ := bothP_mk hb ha
  exact h1.ext h3 fun k => by rw [h2, h4]; omega
/-- the sorted keys with their values -/
theorem join_keys {a b : Pr} (ha : Mk a) (hb : Mk b) : ((isortI (keysP (joinP a b))).map fun k => (k, getP (joinP a b) k)) = bothP a b := by
  obtain ⟨h1, h2, h3⟩ := joinP_spec ha.nodup ha.v hb.nodup hb.v
  obtain ⟨h4, h5⟩ := isort_mk h1 h2
  have hk : isortI (keysP (joinP a b)) = keysP (bothP a b) := (isortI_uniq ((List.mergeSort_perm (joinP a b) pairLe).map _) (h4.s.imp fun h => by omega)).symm
  rw [hk]
  show _ = isort (joinP a b)
  conv => rhs; rw [pairs_of_keys h4.nodup]
  exact List.map_congr_left fun k _ => by rw [h5]
def holdsP (a b : Pr) : Bool := b.all fun z => decide (z.2 ≤ getP a z.1)
theorem holdsP_iff {a b : Pr} (ha : Mk a) (hb : Mk b) : holdsP a b = true ↔ ∀ k, getP b k ≤ getP a k := by
  unfold holdsP
  rw [List.all_eq_true]
  constructor
  · intro h k
    by_cases hk : k ∈ keysP b
    · exact of_decide_eq_true (h _ (mem_getP hk))
    · rw [getP_not hk]
      exact ha.ge k
  · intro h z hz
    obtain ⟨k, v⟩ := z
    have := h k
    rw [getP_mem hb.nodup hz] at this
    exact decide_eq_true this
def lackP (a b : Pr) : List (Int × Int × Int) := (b.filter fun z => decide (getP a z.1 < z.2)).map fun z => (z.1, getP a z.1 + 1, z.2)
theorem lackP_nil {a b : Pr} : (lackP a b).isEmpty = holdsP a b := by
  unfold lackP holdsP
  induction b with
  | nil => rfl
  | cons z b ih =>
    by_cases h : getP a z.1 < z.2
    · have h2 : ¬ z.2 ≤ getP a z.1 := by omega
      simp [h, h2]
    · have h2 : z.2 ≤ getP a z.1 := by omega
      simp only [List.filter_cons, h, decide_false, Bool.false_eq_true, if_false, List.all_cons, h2, decide_true, Bool.true_and]
      exact ih
/-- the lacks' last numbers -/
def lastP (l : List (Int × Int × Int)) : Pr := l.map fun z => (z.1, z.2.2)
theorem last_lack {a b : Pr} : lastP (lackP a b) = b.filter fun z => decide (getP a z.1 < z.2) := by
  unfold lastP lackP
  rw [List.map_map]
  exact List.map_id _
theorem last_mk {a b : Pr} (hb : Mk b) : Mk (lastP (lackP a b)) ∧ ∀ k, getP (lastP (lackP a b)) k = if getP a k < getP b k then getP b k else 0 := by
  rw [last_lack]
  have hsub : (b.filter fun z => decide (getP a z.1 < z.2)).Sublist b := List.filter_sublist
  have hm : Mk (b.filter fun z => decide (getP a z.1 < z.2)) := ⟨hb.s.sublist (hsub.map _), fun z hz => hb.v z (hsub.subset hz)⟩
  refine ⟨hm, fun k => ?_⟩
  split
  · rename_i h
    by_cases hk : k ∈ keysP b
    · exact getP_mem hm.nodup (List.mem_filter.mpr ⟨mem_getP hk, decide_eq_true h⟩)
    · rw [getP_not hk, getP_not]
      exact fun z => hk ((hsub.map _).subset z)
  · rename_i h
    refine getP_not fun z => h ?_
    obtain ⟨y, hy, e⟩ := List.mem_map.mp z
    obtain ⟨h1, h2⟩ := List.mem_filter.mp hy
    obtain ⟨j, v⟩ := y
    subst e
    rw [getP_mem hb.nodup h1]
    exact of_decide_eq_true h2
theorem with_lack {a b : Pr} (ha : Mk a) (hb : Mk b) : bothP a (lastP (lackP a b)) = bothP a b := by
  obtain ⟨h0, h0'⟩ := last_mk (a := a) hb
  obtain ⟨h1, h2⟩ := bothP_mk ha h0
  obtain ⟨h3, h4⟩ := bothP_mk ha hb
  refine h1.ext h3 fun k => ?_
  rw [h2, h4, h0']
  have := ha.ge k
  split <;> omega
theorem holds_both {a b : Pr} (ha : Mk a) (hb : Mk b) : holdsP (bothP a b) b = true := by
  obtain ⟨h1, h2⟩ := bothP_mk ha hb
  rw [holdsP_iff h1 hb]
  intro k
  rw [h2]
  omega
theorem holds_most {a b t : Pr} (ha : Mk a) (hb : Mk b) (ht : Mk t) : holdsP t (bothP a b) = (holdsP t a && holdsP t b) := by
  obtain ⟨h1, h2⟩ := bothP_mk ha hb
  rw [Bool.eq_iff_iff, Bool.and_eq_true, holdsP_iff ht h1, holdsP_iff ht ha, holdsP_iff ht hb]
  constructor
  · intro h
    exact ⟨fun k => by have := h k; rw [h2] at this; omega, fun k => by have := h k; rw [h2] at this; omega⟩
  · intro ⟨x, y⟩ k
    rw [h2]
    have := x k
    have := y k
    omega
end DL


/-! DLy: the hand made, some thing drawn; loops over lists that change nothing. -/
namespace DL
open PySem PySem.Spec L2
open PyProof.Rows hiding St
theorem wR_eq {α : Type} {r : R α} {a : α} {m : List C} (h : wR r fun x m' => x = a ∧ m' = m) : r = .ok a m := by
  obtain ⟨x, m', e, rfl, rfl⟩ := wR_ex h
  exact e
theorem Hand.set {n b : Nat} {m : List C} {c : C} (hn : n < m.length) (h : HandC b c) : Hand n b (m.set n c) := ⟨c, List.getElem?_set_self hn, h⟩
theorem Hand.lt {n b : Nat} {m : List C} (h : Hand n b m) : n < m.length := by
  obtain ⟨c, e, _⟩ := h
  exact (List.getElem?_eq_some_iff.mp e).1
theorem fits_small {n : Nat} (h : n ≤ 100000) : fits n = true := by
  unfold fits
  rw [decide_eq_true_eq]
  omega
def someS (G : FS) : SS := sRet (eBin ixD (eVar 1) (eCall 2 G (aCons (eVar 0) (aCons (eAr lenD (aCons (eVar 1) aNil)) aNil))))
/-- G draws from the hand -/
def Draws (G : FS) : Prop := ∀ {n b : Nat} {m : List C} {k : Int}, Hand n b m → b < 100000000 → 1 ≤ k → k < 4294967296 → ∀ (Q : D → List C → Prop), (∀ (j : Int) (c' : C), 0 ≤ j → j < k → HandC (b + 1) c' → Q (.int j) (m.set n c')) → wR (G [.cell n, .int k] m) Q
theorem draws_of {a1 b1 m1 a2 a3 m2 d1 e1 m3 d2 e2 m4 d3 : Int} (hK : drawK a1 b1 m1 a2 a3 m2 d1 e1 m3 d2 e2 m4 d3 = true) : Draws (fnD 5 (drawS a1 b1 m1 a2 a3 m2 d1 e1 m3 d2 e2 m4 d3)) := fun h hb hk hk2 Q hQ => draw_ok hK h hb hk hk2 Q hQ
/-- G gives one of the things -/
def Somes (G : FS) : Prop := ∀ {n b : Nat} {m : List C} {l : List D}, Hand n b m → b < 100000000 → l ≠ [] → l.length ≤ 100000 → ∀ (Q : D → List C → Prop), (∀ (x : D) (c' : C), x ∈ l → HandC (b + 1) c' → Q x (m.set n c')) → wR (G [.cell n, .lst l] m) Q
theorem some_ok {G : FS} (hG : Draws G) : Somes (fnD 2 (someS G)) := by
  intro n b m l h hb hl hl2 Q hQ
  have h1 : 1 ≤ l.length := by
    cases l with
    | nil => exact absurd rfl hl
    | cons => simp
  unfold someS
  simp only [wR_fn, startD, sRet, wS_go, eBin, eVar, eCall, eAr, aCons, aNil, wR_bind, wR_ok, List.map_cons, List.map_nil, List.cons_append, List.nil_append, List.getElem?_cons_zero, List.getElem?_cons_succ, lenD_lst, List.length_cons, List.length_nil, Nat.reduceAdd, if_true]
  refine hG (k := (l.length : Int)) h hb (by omega) (by omega) _ fun j c' h1 h2 h3 => ?_
  have hj : j.toNat < l.length := by omega
  have e : atI l j = some (l[j.toNat]) := atI_nat h1 (List.getElem?_eq_getElem hj)
  simp only [ixD_lst, e, wR_ok, wS_rt]
  exact hQ _ _ (List.getElem_mem hj) h3
def handS (u v : Int) : SS := sSeq (sSet 1 (eLc (iSeq (eSl (eVar 0) pNone (pSome (eC (.int 63))))) (gN 2) [2] bYes (eAr absD (aCons (eAr DL.intD (aCons (eVar 2) aNil)) aNil))))
    (sRet (eLstC (aCons (eVar 1) (aCons (eC (.int 0)) (aCons (eC (.int 0)) (aCons (eBin addD (eC (.int u)) (eBin mulD (eC (.int v)) (eAr lenD (aCons (eVar 1) aNil)))) (aCons (eC (.int 0)) aNil)))))))
theorem cut_map {l : List Int} {lo hi : Option Int} : cutD (l.map D.int) lo hi = ((l.drop (HT.sIx l.length 0 lo)).take (HT.sIx l.length l.length hi - HT.sIx l.length 0 lo)).map D.int := by
  unfold cutD
  rw [List.length_map, ← List.map_drop, ← List.map_take]
theorem cut63 {l : List Int} : (cutD (l.map D.int) none (some 63)).length ≤ 63 := by
  rw [cut_map, List.length_map, List.length_take]
  have : HT.sIx l.length l.length (some 63) ≤ 63 := by
    unfold HT.sIx
    simp
    omega
  omega
/-- the hand made of a script, whatever way the script stands -/
theorem hand_ok {u v : Int} {d : D} {m : List C} {ns : List Int} {Q : D → List C → Prop} (hu : small32 u = true) (hv : small32 v = true) (hu2 : u < 1000000) (hv2 : v < 1000000) (hd : slD m d none (some 63) = .ok (.lst (cutD (ns.map D.int) none (some 63))) m)
    (hQ : ∀ c', HandC 0 c' → Q (.cell m.length) (m ++ [c'])) : wR (fnD 3 (handS u v) [d] m) Q := by
  unfold small32 at hu hv
  simp only [Bool.and_eq_true, decide_eq_true_eq] at hu hv
  have h63 := cut63 (l := ns)
  rw [cut_map] at hd h63
  generalize ((ns.drop (HT.sIx ns.length 0 none)).take (HT.sIx ns.length ns.length (some 63) - HT.sIx ns.length 0 none)) = l at hd h63
  rw [List.length_map] at h63
  unfold handS
  rw [wR_fn]
  show wS ((sSet 1 _ _ _).seq _) _ _ _ _
  rw [wS_seq]
  show wS ((eLc _ _ _ _ _ _ _).go _ _) _ _ _ _
  rw [wS_go]
  unfold eLc
  rw [wR_bind]
  have e1 : iSeq (eSl (eVar 0) pNone (pSome (eC (.int 63)))) (startD 3 [d]) m = .ok (l.map D.int) m := by
    show ((slD m d none (some 63)).bind _) = _
    rw [hd]
    rfl
  rw [e1, wR_ok, wR_bind]
  have comp : wR (compD (gN 2) [2] bYes (eAr absD (aCons (eAr DL.intD (aCons (eVar 2) aNil)) aNil)) (startD 3 [d]) (l.map D.int) m) fun zs m' => zs = (l.map fun x => if x < 0 then -x else x).map D.int ∧ m' = m := by
    have := wR_comp (g := gN 2) (vs := [2]) (A := bYes) (F := eAr absD (aCons (eAr DL.intD (aCons (eVar 2) aNil)) aNil)) (ρ := startD 3 [d]) (Q := fun zs m' => zs = (l.map fun x => if x < 0 then -x else x).map D.int ∧ m' = m)
      (fun ys ds m' => ∃ l1 l2 : List Int, l = l1 ++ l2 ∧ ds = l2.map D.int ∧ ys = (l1.map fun x => if x < 0 then -x else x).map D.int ∧ m' = m) (fun ys m' ⟨l1, l2, h1, h2, h3, h4⟩ => by
        have : l2 = [] := by simpa using h2.symm
        subst this
        rw [List.append_nil] at h1
        subst h1
        exact ⟨h3, h4⟩) (fun ys x ds m' ⟨l1, l2, h1, h2, h3, h4⟩ => by
        cases l2 with
        | nil => cases h2
        | cons k l2 =>
          cases h2
          refine ⟨_, rfl, ?_⟩
          simp only [bYes, wR_ok, if_true, eAr, aCons, aNil, eVar, wR_bind, wipeD, startD, List.map_cons, List.map_nil, List.length_cons, List.length_nil, List.replicate, Nat.reduceSub, Nat.reduceAdd, List.cons_append, List.nil_append, List.set_cons_zero, List.set_cons_succ, List.getElem?_cons_zero, List.getElem?_cons_succ, intD_int, absD_int]
          refine ⟨l1 ++ [k], l2, by simp [h1], rfl, ?_, h4⟩
          rw [h3]
          simp) (l := l.map D.int) (ys := []) (m := m) ⟨[], l, rfl, rfl, rfl, rfl⟩
    exact wR_imp this fun zs m' h => by simpa using h
  refine wR_imp comp fun zs m' ⟨e2, e3⟩ => ?_
  subst e2 e3
  generalize hk : (l.map fun x => if x < 0 then -x else x) = ks
  have hkl : ks.length ≤ 63 := by rw [← hk, List.length_map]; exact h63
  have hk0 : ∀ x ∈ ks, 0 ≤ x := fun x hx => by
    rw [← hk] at hx
    obtain ⟨y, _, e⟩ := List.mem_map.mp hx
    split at e <;> omega
  unfold compEnd
  rw [if_pos (fits_small (by rw [List.length_map]; omega)), wR_ok, wS_nx]
  have hm : mulOk v ks.length = true := mulOk_small (by omega) (by omega) (by omega) (by omega)
  simp only [startD, List.map_cons, List.map_nil, List.length_cons, List.length_nil, List.replicate, Nat.reduceSub, Nat.reduceAdd, List.cons_append, List.nil_append, List.set_cons_zero, List.set_cons_succ, sRet, eLstC, wS_go, eBin, eAr, eVar, eC, aCons, aNil, wR_bind, wR_ok, List.getElem?_cons_zero, List.getElem?_cons_succ, lenD_lst, List.length_map, mulD_int, hm, if_true, addD_int, fits_small (show 5 ≤ 100000 by decide), wS_rt]
  refine hQ _ ⟨ks, 0, 0, _, 0, rfl, hkl, by omega, by omega, hk0, ?_, ?_, by omega, by omega⟩
  · have := Int.mul_nonneg (Int.le_of_lt hv.1) (Int.natCast_nonneg ks.length)
    omega
  · have : v * ks.length ≤ 1000000 * 63 := Int.mul_le_mul (by omega) (by omega) (by omega) (by omega)
    omega

/-! ### comprehensions that change nothing -/
theorem lc_filter {L : LS} {g : GS} {vs : List Nat} {A : BS} {F : ES} {ρ : Env} {m : List C} {l : List D} (p : D → Bool) (f : D → D) (hL : L ρ m = .ok l m)
    (h : ∀ d ∈ l, ∃ ρ1, g d (wipeD ρ vs) m = some ρ1 ∧ A ρ1 m = .ok (p d) m ∧ (p d = true → F ρ1 m = .ok (f d) m)) (hf : l.length ≤ 100000) : eLc L g vs A F ρ m = .ok (.lst ((l.filter p).map f)) m := by
  have key : ∀ l : List D, (∀ d ∈ l, ∃ ρ1, g d (wipeD ρ vs) m = some ρ1 ∧ A ρ1 m = .ok (p d) m ∧ (p d = true → F ρ1 m = .ok (f d) m)) → compD g vs A F ρ l m = .ok ((l.filter p).map f) m := by
    intro l
    induction l with
    | nil => intro _; rfl
    | cons d l ih =>
      intro h
      obtain ⟨ρ1, h1, h2, h3⟩ := h d List.mem_cons_self
      unfold compD
      rw [h1]
      show compK _ _ _ = _
      rw [h2]
      cases hp : p d with
      | false =>
        show compD g vs A F ρ l m = _
        rw [ih fun x hx => h x (List.mem_cons_of_mem _ hx), List.filter_cons_of_neg (by simp [hp])]
      | true =>
        show compE (F ρ1 m) _ = _
        rw [h3 hp]
        show ((compD g vs A F ρ l m).bind _) = _
        rw [ih fun x hx => h x (List.mem_cons_of_mem _ hx), List.filter_cons_of_pos hp]
        rfl
  unfold eLc
  rw [hL]
  show (compD g vs A F ρ l m).bind compEnd = _
  rw [key l h]
  show compEnd _ _ = _
  unfold compEnd
  rw [if_pos]
  refine fits_small ?_
  rw [List.length_map]
  exact Nat.le_trans (List.length_filter_le _ _) hf
theorem lc_pure {L : LS} {g : GS} {vs : List Nat} {F : ES} {ρ : Env} {m : List C} {l : List D} (f : D → D) (hL : L ρ m = .ok l m)
    (h : ∀ d ∈ l, ∃ ρ1, g d (wipeD ρ vs) m = some ρ1 ∧ F ρ1 m = .ok (f d) m) (hf : l.length ≤ 100000) : eLc L g vs bYes F ρ m = .ok (.lst (l.map f)) m := by
  have := lc_filter (A := bYes) (p := fun _ => true) f hL (fun d hd => let ⟨ρ1, h1, h2⟩ := h d hd; ⟨ρ1, h1, rfl, fun _ => h2⟩) hf
  rwa [List.filter_eq_self.mpr fun _ _ => rfl] at this
theorem bools_map {α : Type} {f : α → Bool} : ∀ {l : List α}, bools (l.map fun x => D.bl (f x)) = some (l.map f)
  | [] => rfl
  | x :: l => by
    show (bools (l.map fun x => D.bl (f x))).map _ = _
    rw [bools_map]
    rfl
theorem all_eq {α : Type} {f : α → Bool} {l : List α} {m : List C} : allD [.lst (l.map fun x => D.bl (f x))] m = .ok (.bl (l.all f)) m := by
  show (match (lstOf m (.lst (l.map fun x => D.bl (f x)))).bind bools with
    | some bs => R.ok (D.bl (bs.all id)) m
    | none => .no) = _
  have : (lstOf m (.lst (l.map fun x => D.bl (f x)))).bind bools = some (l.map f) := bools_map
  rw [this]
  show R.ok (D.bl ((l.map f).all id)) m = _
  rw [List.all_map]
  rfl
theorem cut_tail {l : List D} : cutD l (some 1) none = l.tail := by
  unfold cutD HT.sIx
  cases l with
  | nil => rfl
  | cons x l =>
    simp
end DL


/-! DLz: dicts of ints. -/
namespace DL
open PySem PySem.Spec L2
open PyProof.Rows hiding St pairD intD
def ksP (p : Pr) : List Key := p.map fun z => Sum.inl z.1
def vsP (p : Pr) : List D := p.map fun z => D.int z.2
theorem ksP_len {p : Pr} : (ksP p).length = p.length := List.length_map _
theorem hasK_P {p : Pr} {k : Int} : hasK (ksP p) (.inl k) = decide (k ∈ keysP p) := by
  induction p with
  | nil => rfl
  | cons z p ih =>
    show (decide ((Sum.inl z.1 : Key) = .inl k) || hasK (ksP p) (.inl k)) = _
    rw [ih]
    have e : (k ∈ keysP (z :: p)) ↔ z.1 = k ∨ k ∈ keysP p := by
      unfold keysP
      rw [List.map_cons, List.mem_cons]
      exact ⟨fun h => h.imp (fun e => e.symm) id, fun h => h.imp (fun e => e.symm) id⟩
    have e2 : ((Sum.inl z.1 : Key) = .inl k) ↔ z.1 = k := ⟨Sum.inl.inj, fun h => by rw [h]⟩
    rw [Bool.eq_iff_iff, Bool.or_eq_true, decide_eq_true_eq, decide_eq_true_eq, decide_eq_true_eq, e, e2]
theorem lookD_P {p : Pr} {k : Int} : lookD (ksP p) (vsP p) (.inl k) = if k ∈ keysP p then some (.int (getP p k)) else none := by
  induction p with
  | nil => rfl
  | cons z p ih =>
    obtain ⟨a, v⟩ := z
    show (if (Sum.inl a : Key) = .inl k then some (D.int v) else lookD (ksP p) (vsP p) (.inl k)) = _
    rw [getP_cons]
    by_cases e : a = k
    · subst e
      rw [if_pos rfl, if_pos rfl, if_pos (by simp [keysP])]
    · have e2 : ¬ (Sum.inl a : Key) = .inl k := fun z => e (Sum.inl.inj z)
      have e3 : (k ∈ keysP ((a, v) :: p)) ↔ k ∈ keysP p := by
        unfold keysP
        rw [List.map_cons, List.mem_cons]
        exact ⟨fun h => h.resolve_left fun z => e z.symm, .inr⟩
      rw [if_neg e2, if_neg e, ih]
      simp [e3]
theorem putVs_P {p : Pr} {k : Int} {d : D} : putVs (ksP p) (vsP p) (.inl k) d = p.map fun z => if z.1 = k then d else .int z.2 := by
  induction p with
  | nil => rfl
  | cons z p ih =>
    show (if (Sum.inl z.1 : Key) = .inl k then d else .int z.2) :: putVs (ksP p) (vsP p) (.inl k) d = _
    rw [ih, List.map_cons]
    by_cases e : z.1 = k
    · simp [e]
    · have e2 : ¬ (Sum.inl z.1 : Key) = .inl k := fun y => e (Sum.inl.inj y)
      rw [if_neg e2, if_neg e]
theorem putD_P {p : Pr} {k v : Int} : putD (ksP p) (vsP p) (.inl k) (.int v) = (ksP (putP p k v), vsP (putP p k v)) := by
  unfold putD putP
  rw [hasK_P]
  by_cases h : k ∈ keysP p
  · rw [if_pos (decide_eq_true h), if_pos h, putVs_P]
    unfold ksP vsP
    rw [List.map_map, List.map_map]
    refine Prod.ext ?_ ?_
    · refine List.map_congr_left fun z _ => ?_
      show (Sum.inl z.1 : Key) = .inl (if z.1 = k then (z.1, v) else z).1
      split <;> rfl
    · refine List.map_congr_left fun z _ => ?_
      show (if z.1 = k then D.int v else .int z.2) = .int (if z.1 = k then (z.1, v) else z).2
      split <;> rfl
  · rw [if_neg (by simp [h]), if_neg h]
    simp [ksP, vsP]
theorem merge_P : ∀ {p q : Pr}, (keysP (q ++ p)).Nodup → mergeD (ksP q) (vsP q) (ksP p) (vsP p) = (ksP (q ++ p), vsP (q ++ p))
  | [], q, _ => by
    rw [List.append_nil]
    show mergeD (ksP q) (vsP q) [] [] = _
    unfold mergeD
    rfl
  | z :: p, q, h => by
    obtain ⟨k, v⟩ := z
    show mergeD (putD (ksP q) (vsP q) (.inl k) (.int v)).1 (putD (ksP q) (vsP q) (.inl k) (.int v)).2 (ksP p) (vsP p) = _
    have hk : k ∉ keysP q := fun hk => by
      unfold keysP at h hk
      rw [List.map_append, List.nodup_append] at h
      exact h.2.2 k hk k (by simp) rfl
    have e : putP q k v = q ++ [(k, v)] := if_neg hk
    rw [putD_P, e]
    have := merge_P (p := p) (q := q ++ [(k, v)]) (by rw [List.append_assoc]; exact h)
    rw [this, List.append_assoc]
    rfl
theorem pairsD_P {p : Pr} : pairsD (p.map pairD) = some (ksP p, vsP p) := by
  induction p with
  | nil => rfl
  | cons z p ih =>
    show (match keyOf (.int z.1), pairsD (p.map pairD) with
      | some k, some (ks, vs) => some (k :: ks, D.int z.2 :: vs)
      | _, _ => none) = _
    rw [ih]
    rfl
theorem dictD_P {p : Pr} {m : List C} (h : (keysP p).Nodup) : dictD [.tup (p.map pairD)] m = .ok (.cell m.length) (m ++ [.dic (ksP p) (vsP p)]) := by
  show (match pairsD (p.map pairD) with
    | some (ks, vs) => R.ok (D.cell m.length) (m ++ [C.dic (mergeD [] [] ks vs).1 (mergeD [] [] ks vs).2])
    | none => .no) = _
  rw [pairsD_P]
  have e := merge_P (p := p) (q := []) h
  show R.ok _ (m ++ [C.dic (mergeD [] [] (ksP p) (vsP p)).1 (mergeD [] [] (ksP p) (vsP p)).2]) = _
  rw [show mergeD [] [] (ksP p) (vsP p) = (ksP p, vsP p) from e]
section
variable {m : List C} {ks : List Key} {vs : List D} {p : Pr}
theorem get_end {c : C} : (m ++ [c])[m.length]? = some c := by simp
theorem set_end {c c' : C} : (m ++ [c]).set m.length c' = m ++ [c'] := by simp
theorem dicOf_end : dicOf (m ++ [.dic ks vs]) (.cell m.length) = some (ks, vs) := by
  unfold dicOf
  simp only [get_end]
theorem frzR_end : frzR (.cell m.length) (m ++ [.dic ks vs]) = .ok (.dic ks vs) (m ++ [.dead]) := by
  unfold frzR
  simp only [get_end, set_end]
theorem frzR_endL {l : List D} : frzR (.cell m.length) (m ++ [.lst l]) = .ok (.lst l) (m ++ [.dead]) := by
  unfold frzR
  simp only [get_end, set_end]
theorem setD_end {k v : Int} (h : p.length ≤ 10000) : setD (.cell m.length) (.int k) (.int v) (m ++ [.dic (ksP p) (vsP p)]) = some (m ++ [.dic (ksP (putP p k v)) (vsP (putP p k v))]) := by
  unfold setD
  simp only [get_end, set_end, keyOf, putD_P]
  rw [if_pos (fits_small (by rw [ksP_len]; omega))]
theorem get2_P {Fo Fk Fx : ES} {ρ : Env} {o : D} {k : Int} (ho : Fo ρ m = .ok o m) (hd : dicOf m o = some (ksP p, vsP p)) (hk : Fk ρ m = .ok (.int k) m) (hx : Fx ρ m = .ok (.int 0) m) : eGet2 Fo Fk Fx ρ m = .ok (.int (getP p k)) m := by
  unfold eGet2
  rw [ho, R.bind_ok, hd]
  show ((Fk ρ m).bind _) = _
  rw [hk, R.bind_ok, hx, R.bind_ok, hd]
  show (match lookD (ksP p) (vsP p) (.inl k) with
    | some v => R.ok v m
    | none => R.ok (.int 0) m) = _
  rw [lookD_P]
  by_cases h : k ∈ keysP p
  · rw [if_pos h]
  · rw [if_neg h, getP_not h]
theorem intPairs_P : intPairs (ksP p) (vsP p) = some p := by
  induction p with
  | nil => rfl
  | cons z p ih =>
    show (intPairs (ksP p) (vsP p)).map _ = _
    rw [ih]
    rfl
theorem sortIt_P {Fo : ES} {ρ : Env} {o : D} (ho : Fo ρ m = .ok o m) (hd : dicOf m o = some (ksP p, vsP p)) : eSortIt Fo ρ m = .ok (.lst ((isort p).map pairD)) m := by
  unfold eSortIt
  rw [ho, R.bind_ok, hd]
  show (match intPairs (ksP p) (vsP p) with
    | some l => R.ok (D.lst ((isort l).map pairD)) m
    | none => .no) = _
  rw [intPairs_P]
theorem keyInts_P : keyInts (ksP p) = some (keysP p) := by
  induction p with
  | nil => rfl
  | cons z p ih =>
    show (keyInts (ksP p)).map _ = _
    rw [ih]
    rfl
theorem sortD_end (h : p.length < 64) : sortD [.cell m.length] (m ++ [.dic (ksP p) (vsP p)]) = .ok (.lst ((isortI (keysP p)).map D.int)) (m ++ [.dic (ksP p) (vsP p)]) := by
  unfold sortD lstOf
  simp only [get_end, dicOf_end, keyInts_P, Option.bind_none]
  rw [if_pos (by unfold keysP; rw [List.length_map]; exact h)]
theorem ixD_end {k : Int} (h : k ∈ keysP p) : ixD (.cell m.length) (.int k) (m ++ [.dic (ksP p) (vsP p)]) = .ok (.int (getP p k)) (m ++ [.dic (ksP p) (vsP p)]) := by
  have e : seqOf (m ++ [.dic (ksP p) (vsP p)]) (.cell m.length) = none := by
    unfold seqOf lstOf
    simp only [get_end]
  unfold ixD
  simp only [e, dicOf_end, keyOf, lookD_P, if_pos h]
theorem len_put {k v : Int} : (putP p k v).length ≤ p.length + 1 := by
  unfold putP
  split
  · rw [List.length_map]; omega
  · simp
theorem len_join : ∀ {b a : Pr}, (joinP a b).length ≤ a.length + b.length
  | [], a => Nat.le_refl _
  | (k, v) :: b, a => by
    have := len_join (b := b) (a := putP a k (max v (getP a k)))
    have h2 := len_put (p := a) (k := k) (v := max v (getP a k))
    show (joinP _ b).length ≤ _
    rw [List.length_cons]
    omega
end
end DL


/-! DLq: the end of a law. -/
namespace DL
open PySem PySem.Spec L2
open PyProof.Rows hiding St pairD intD cutD
theorem law_sp {K : PySem.W.Frag} {T : List (Addr × Str)} {G : FS} {a : Addr} {ns : List Int} {H : Hp} (hT : LamX.Tabs T H) (hS : SqL K H a (ns.map V.int))
    (hG : ∀ d m, slD m d none (some 63) = .ok (.lst (DL.cutD (ns.map D.int) none (some 63))) m → wR (G [d] m) fun x m' => x = .bl true) : spD K T 1 G [.ref a] H (fun v _ => v = .bl true) fun _ _ _ => False := by
  have fin : ∀ μ d m, RepL K μ H [d] [.ref a] → Sto T K μ H m → slD m d none (some 63) = .ok (.lst (DL.cutD (ns.map D.int) none (some 63))) m → spD K T 1 G [.ref a] H (fun v _ => v = .bl true) fun _ _ _ => False := fun μ d m r s e => by
    obtain ⟨x, m', h1, h2⟩ := wR_ex (hG d m e)
    refine ⟨rfl, μ, [d], m, r, s, ?_⟩
    rw [h1, h2]
    exact fun μ' H' v _ _ r => r
  have none : Sto T K [] H [] := ⟨rfl, List.nodup_nil, fun n c b e _ => by simp at e, hT⟩
  rcases hS with (e | ⟨o, e⟩) | h
  · refine fin [a] (.cell 0) [.lst (ns.map D.int)] ⟨_, _, rfl, ⟨a, rfl, rfl⟩, rfl⟩ ⟨rfl, by simp, fun n c b e1 e2 => ?_, hT⟩ rfl
    cases n with
    | zero =>
      cases e1
      cases e2
      exact ⟨_, e, ints_repL ns⟩
    | succ n => simp at e1
  · exact fin [] (.lst (ns.map D.int)) [] ⟨_, _, rfl, ⟨a, _, rfl, ⟨o, e⟩, ints_repL ns⟩, rfl⟩ none rfl
  · exact fin [] (.scr ns) [] ⟨_, _, rfl, ⟨a, rfl, h⟩, rfl⟩ none rfl
/-- a class by its name -/
def clM (mg : Str → Option Value) (x : Str) : Addr := match mg x with
  | some (.ref a) => a
  | _ => 0
theorem clM_of {mg : Str → Option Value} {x : Str} {a : Addr} (h : mg x = some (.ref a)) : clM mg x = a := by
  unfold clM
  rw [h]
theorem cls_at {mg : Str → Option Value} {x : Str} {a : Addr} (h : mg x = some (.ref a)) : ClsAt mg x (clM mg x) := by
  rw [clM_of h]
  exact h
theorem err_at {K : PySem.W.Frag} {mg : Str → Option Value} {x : Str} {c : Addr} (h : mg x = some (.ref c)) (e : PySem.W.excIn K c [.type "ValueError", .type "Exception", .type "BaseException", .type "object"] "ValueError.__new__" = true)
    (k : PySem.W.keepIn K (.ref c) = true) (b : PySem.W.subIn K (.ref c) (.type "BaseException") = some true) (t : PySem.W.typeIn K (.ref c) = some (.type "type")) : ErrAt K mg x (clM mg x) := by
  rw [clM_of h]
  exact ⟨h, e, k, b, t⟩
theorem tabs_one {H : Hp} {P : Addr} {q : Str} (h : H P = some (.tbl #[])) : LamX.Tabs [(P, q)] H := fun p hp => by
  rw [List.mem_singleton.mp hp]
  exact LamX.TabS.nil h
theorem CX_no {P : Program} {w : World} {H : Hp} {s : Shared} {e : Value} {s' : Shared} (h : L2.CX P w [] H s (fun _ _ _ => False) e s') : False := by
  obtain ⟨_, _, _, _, _, _, _, _, _, _, _, _, z⟩ := h
  exact z
end DL


/-! DLr: texts: comparisons, ord, join, upper, repeats, shifts. -/
namespace DL
open PySem PySem.Spec L2
open PyProof.Rows hiding St pairD intD cutD
section
variable {X : Cx} {T : List (Addr × Str)} {W : WX}
/-! ### comparisons of texts -/
def sLt (x y : Str) : Bool := decide (x.cps.toList < y.cps.toList)
def sLe (x y : Str) : Bool := !decide (y.cps.toList < x.cps.toList)
def sGt (x y : Str) : Bool := decide (y.cps.toList < x.cps.toList)
def sGe (x y : Str) : Bool := !decide (x.cps.toList < y.cps.toList)
def cmpSD (f : Str → Str → Bool) : D → D → List C → R D := fun a b m => match a, b with
  | .str x, .str y => .ok (.bl (f x y)) m
  | _, _ => .no
theorem cmpSD_ok {f : Str → Str → Bool} : OpD X T (cmpSD f) (fun x y H Q => ∃ i j, x = .str i ∧ y = .str j ∧ Q (.bl (f i j)) H) := by
  intro W σ μ H m d1 d2 x y Q S r1 r2 q
  unfold cmpSD at q
  split at q
  · cases r1; cases r2
    exact ⟨_, _, rfl, rfl, post_here (a := D.bl _) S rfl q⟩
  · exact q.elim
/-! ### ord -/
def ordD : FS := fun ds m => match ds with
  | [.str x] => if x.length = 1 then .ok (.int (x.cps.getD 0 0 : Nat)) m else .no
  | _ => .no
theorem ordD_ok : ArD X T ordD (fun xs H Q => ∃ x, xs = [.str x] ∧ x.length = 1 ∧ Q (.int (x.cps.getD 0 0 : Nat)) H) := by
  intro W σ μ H m ds xs Q S r q
  unfold ordD at q
  split at q
  · obtain ⟨v, rfl, r1⟩ := repL1 r
    cases r1
    split at q
    · rename_i h
      exact ⟨_, rfl, h, post_here (a := D.int _) S rfl q⟩
    · exact q.elim
  · exact q.elim
/-! ### sep.join(texts) -/
def strsD : List D → Option (List Str)
  | [] => some []
  | .str x :: l => (strsD l).map (x :: ·)
  | _ => none
theorem strsD_rep {K : PySem.W.Frag} {μ : List Addr} {H : Hp} : ∀ {l : List D} {ys : List Str} {xs : List V}, RepL K μ H l xs → strsD l = some ys → xs = ys.map V.str
  | [], _, _, r, e => by cases e; cases r; rfl
  | d :: l, ys, _, r, e => by
    cases d with
    | str k =>
      obtain ⟨x, xs, rfl, r1, r2⟩ := r
      cases r1
      unfold strsD at e
      cases h : strsD l with
      | none => rw [h] at e; cases e
      | some l' => rw [h] at e; cases e; rw [strsD_rep r2 h]; rfl
    | _ => simp [strsD] at e
def joinOk (a : Str) (ys : List Str) : Bool := decide ((ys.map (·.length)).sum + ys.length * a.length ≤ 16777216)
def joinD : D → List D → List C → R D := fun d ds m => match d, ds with
  | .str a, [e] => (match (seqOf m e).bind strsD with
    | some ys => if joinOk a ys then .ok (.str (Txt.join a ys)) m else .no
    | none => .no)
  | _, _ => .no
theorem joinD_ok : MtD X T joinD (fun x xs H Q => ∃ a p, ∃ ys : List Str, x = .str a ∧ xs = [.ref p] ∧ (SqL X.K H p (ys.map V.str) ∨ SqT X.K H p (ys.map V.str)) ∧
    (ys.map (·.length)).sum + ys.length * a.length ≤ 16777216 ∧ Q (.str (Txt.join a ys)) H) := by
  intro W σ μ H m d ds x xs Q S r rs q
  unfold joinD at q
  split at q
  · rename_i a e
    cases r
    obtain ⟨v, rfl, r1⟩ := repL1 rs
    split at q
    · rename_i ys hy
      obtain ⟨l, hl, hs⟩ := Option.bind_eq_some_iff.mp hy
      obtain ⟨p, zs, rfl, hq, rl⟩ := seqOf_rep S r1 hl
      have ez := strsD_rep rl hs
      subst ez
      split at q
      · rename_i hj
        exact ⟨a, p, ys, rfl, rfl, hq, of_decide_eq_true hj, post_here (a := D.str _) S rfl q⟩
      · exact q.elim
    · exact q.elim
  · exact q.elim
/-! ### x.upper() -/
def upperD : D → List D → List C → R D := fun d ds m => match d, ds with
  | .str a, [] => if a.length ≤ 5592405 then .ok (.str (Txt.upper a)) m else .no
  | _, _ => .no
theorem upperD_ok : MtD X T upperD (fun x xs H Q => ∃ a, x = .str a ∧ xs = [] ∧ a.length ≤ 5592405 ∧ Q (.str (Txt.upper a)) H) := by
  intro W σ μ H m d ds x xs Q S r rs q
  unfold upperD at q
  split at q
  · cases r
    cases rs
    split at q
    · rename_i h
      exact ⟨_, rfl, rfl, h, post_here (a := D.str _) S rfl q⟩
    · exact q.elim
  · exact q.elim
/-! ### i << j -/
def shlD : D → D → List C → R D := fun a b m => match a, b with
  | .int i, .int j => if powOk i j then .ok (.int (i * 2 ^ j.toNat)) m else .no
  | _, _ => .no
theorem shlD_ok : OpD X T shlD (rI CPow fun i j => .int (i * 2 ^ j.toNat)) := by
  intro W σ μ H m d1 d2 x y Q S r1 r2 q
  unfold shlD at q
  split at q
  · cases r1; cases r2
    split at q
    · rename_i h
      unfold powOk at h
      simp only [Bool.and_eq_true, decide_eq_true_eq] at h
      exact ⟨_, _, rfl, rfl, ⟨h.1.1, h.1.2, h.2⟩, post_here (a := D.int _) S rfl q⟩
    · exact q.elim
  · exact q.elim
/-! ### x * k -/
def repS (x : Str) (k : Nat) : Str := ⟨(List.replicate k x.cps).foldl (· ++ ·) #[]⟩
def rMulS : R2 := fun x y H Q => ∃ (a : Str) (k : Int), x = .str a ∧ y = .int k ∧ 0 ≤ k ∧ k ≤ 100000 ∧ a.length ≤ 100 ∧ Q (.str (repS a k.toNat)) H
theorem foldl_one {α : Type} (x : Array α) : (List.replicate 1 x).foldl (· ++ ·) #[] = x := by simp [List.replicate]
theorem foldl_size {α : Type} {x : Array α} : ∀ (n : Nat) (acc : Array α), ((List.replicate n x).foldl (· ++ ·) acc).size = acc.size + n * x.size
  | 0, acc => by simp
  | n + 1, acc => by
    rw [List.replicate_succ, List.foldl_cons, foldl_size n, Array.size_append, Nat.succ_mul]
    omega
theorem repS_len {a : Str} (n : Nat) : (repS a n).length = n * a.length := by
  show ((List.replicate n a.cps).foldl (· ++ ·) #[]).size = _
  rw [foldl_size]
  simp [Str.length]
theorem op_mulS : OpR X (binaryOp .Mult) rMulS := by
  intro pins s σ H x y v u Q I rx ry h
  obtain ⟨a, k, rfl, rfl, h0, h1, h2, q⟩ := h
  obtain ⟨t, rfl⟩ := rx
  obtain ⟨t2, rfl⟩ := ry
  have hm : a.length * k.toNat ≤ 100 * 100000 := Nat.mul_le_mul h2 (by omega)
  refine PySem.P.mul_str ?_ (fun _ _ => ?_) (fun _ _ => PyProof.Rows.short24 (by omega)) ?_
  · have e1 : ¬ k < -(2 ^ 63 : Int) := by omega
    have e2 : ¬ k ≥ 2 ^ 63 := by omega
    rw [decide_eq_false e1, decide_eq_false e2]; rfl
  · have hk : 0 < k := by omega
    have h3 : (a.length : Int) ≤ (2 ^ 63 - 1) / k := (Int.le_ediv_iff_mul_le hk).mpr (by
      have : (a.length : Int) * k ≤ 100 * 100000 := Int.mul_le_mul (by omega) h1 h0 (by omega)
      omega)
    omega
  · have fin : ∀ z : Str, z.length ≤ 16777216 → Q (.str z) H → (Made.str z).post (EP X pins σ Q) s := fun z hz h => ⟨(by rw [sizeLine_eq]; exact hz), .str z, H, I.tok _, ⟨_, rfl⟩, h⟩
    by_cases k0 : k < 1
    · rw [if_pos k0]
      have : k.toNat = 0 := by omega
      rw [this] at q
      exact fin Str.empty (by decide) q
    · rw [if_neg k0]
      have hlen : ∀ n : Nat, (repS a n).length = n * a.length := repS_len
      by_cases k1 : (k == 1 || a.length == 0) = true
      · rw [if_pos k1]
        have e : repS a k.toNat = a := by
          rw [Bool.or_eq_true, beq_iff_eq, beq_iff_eq] at k1
          rcases k1 with rfl | e
          · show (⟨(List.replicate 1 a.cps).foldl (· ++ ·) #[]⟩ : Str) = a
            rw [foldl_one]
          · have e1 : (repS a k.toNat).length = 0 := by rw [hlen, e, Nat.mul_zero]
            have z : ∀ y : Str, y.length = 0 → y = Str.empty := fun y hy => by
              obtain ⟨cps⟩ := y
              have : cps = #[] := Array.eq_empty_of_size_eq_zero hy
              rw [this]
              rfl
            rw [z _ e1, z a e]
        rw [e] at q
        exact ⟨.str a, H, I.tok _, ⟨_, rfl⟩, q⟩
      · rw [if_neg k1]
        exact fin _ (by rw [show (⟨List.foldl (fun x1 x2 => x1 ++ x2) #[] (List.replicate k.toNat a.cps)⟩ : Str) = repS a k.toNat from rfl, hlen, Nat.mul_comm]; omega) q
end
end DL


/-! DLs: list.count, list.index, tuples repeated, x.replace. -/
namespace DL
open PySem PySem.Spec L2
open PyProof.Rows hiding St pairD intD cutD
section
variable {X : Cx} {T : List (Addr × Str)} {W : WX}
/-! ### l.count(x) -/
def rCountD (K : PySem.W.Frag) : V → List V → Hp → VK → Prop := fun x xs H Q => ∃ (a : Addr) (y : V) (d : PyData) (ds : List PyData), x = V.ref a ∧ xs = [y] ∧ Dp K H (V.ref a) (.list ds) ∧ Dp K H y d ∧
  SeqAt.shaped (.list ds) = true ∧ SeqAt.shaped d = true ∧ Q (.int (ds.countP fun z => PyData.eqv z d : Nat)) H
theorem mt_countD (hu : X.A.units + 65 < cLine) : MtR X "list.count" (rCountD X.K) := by
  intro pins s σ H x xs v us Q I rx rxs h
  obtain ⟨a, y, d, ds, rfl, rfl, hl, hy, sl, sd, q⟩ := h
  cases rx
  cases rxs with
  | cons ry rt =>
    rename_i uy ut
    cases rt
    obtain ⟨bs, r1⟩ := Dp.reads I d y uy hy ry
    have hxs : PyData.canLayAll0 ds = true := SeqAt.canLay_of_shaped sl
    have hroom : X.A.units + 1 + min (PyData.depthAll ds) d.depth < cLine := room_in_shaped sd hu
    cases hl with
    | lst hs ha =>
      obtain ⟨its, rv, ⟨⟨cls, dd, data, sls⟩, n, ho, hc, hdn, hdt⟩, hlen⟩ := I.list hs
      simp only at hc hdt
      subst hc hdt
      obtain ⟨as, h4⟩ := Dp.readsAll I ds _ its ha rv
      have hmap : its.map (SeqAt.readOf s.heap) = ds := SeqAt.readsAll_map ds its as hxs h4
      refine call_meets PySem.F.slot_list_count ⟨_, ho, rfl⟩ PySem.F.entry_list_count (PySem.F.args_list_count_2 _ _)
        (SeqAt.list_countAt a its.toArray n dd sls uy (fun u => PyData.eqv (SeqAt.readOf s.heap u) d)) ⟨ho, SeqAt.items_eqAt (vs := its.toArray) (show ReadsAll s.heap its.toArray.toList ds as from h4) r1 hxs (SeqAt.canLay_of_shaped sd) hroom, ?_⟩
      have e : (its.toArray.toList.countP fun u => PyData.eqv (SeqAt.readOf s.heap u) d) = ds.countP fun z => PyData.eqv z d := by
        rw [← hmap, List.countP_map]
        rfl
      refine ⟨.int (ds.countP fun z => PyData.eqv z d : Nat), H, I.tok _, ⟨s.toks, ?_⟩, q⟩
      show Value.int ((its.toArray.toList.countP fun u => PyData.eqv (SeqAt.readOf s.heap u) d : Nat) : Int) s.toks = _
      rw [e]
def countD : D → List D → List C → R D := fun d ds m => match ds with
  | [x] => (match DL.dataOf m d, x.data with
    | some (.list xs), some y => if SeqAt.shaped (.list xs) && SeqAt.shaped y then .ok (.int (xs.countP fun z => PyData.eqv z y : Nat)) m else .no
    | _, _ => .no)
  | _ => .no
theorem dp_list_ref {K : PySem.W.Frag} {H : Hp} {v : V} {xs : List PyData} (h : Dp K H v (.list xs)) : ∃ a, v = .ref a := by
  cases h with
  | lst hs ha => exact ⟨_, rfl⟩
theorem countD_ok : MtD X T countD (rCountD X.K) := by
  intro W σ μ H m d ds x xs Q S r rs q
  unfold countD at q
  split at q
  · obtain ⟨v, rfl, r1⟩ := repL1 rs
    split at q
    · rename_i zs y h1 h2
      split at q
      · rename_i hs
        rw [Bool.and_eq_true] at hs
        have dl := dataOf_dp S r h1
        obtain ⟨a, rfl⟩ := dp_list_ref dl
        exact ⟨a, v, y, zs, rfl, rfl, dl, data_dp _ r1 h2, hs.1, hs.2, post_here (a := D.int _) S rfl q⟩
      · exact q.elim
    · exact q.elim
  · exact q.elim
/-! ### l.index(x) -/
def indexP (y : PyData) : List PyData → Nat → Option Nat
  | [], _ => none
  | z :: l, n => if PyData.eqv z y then some n else indexP y l (n + 1)
theorem indexP_spec {y : PyData} : ∀ {l : List PyData} {n j : Nat}, indexP y l n = some j → ∃ i z, j = n + i ∧ l[i]? = some z ∧ PyData.eqv z y = true ∧ ∀ (k : Nat) (z' : PyData), k < i → l[k]? = some z' → PyData.eqv z' y = false
  | [], _, _, h => by cases h
  | z :: l, n, j, h => by
    unfold indexP at h
    split at h
    · rename_i e
      cases h
      exact ⟨0, z, rfl, rfl, e, fun k _ hk => absurd hk (Nat.not_lt_zero k)⟩
    · rename_i e
      obtain ⟨i, z1, h1, h2, h3, h4⟩ := indexP_spec h
      refine ⟨i + 1, z1, by omega, by simpa using h2, h3, fun k z' hk hz => ?_⟩
      cases k with
      | zero =>
        simp at hz
        subst hz
        simpa using e
      | succ k => exact h4 k z' (by omega) (by simpa using hz)
def indexD : D → List D → List C → R D := fun d ds m => match ds with
  | [x] => (match DL.dataOf m d, x.data with
    | some (.list xs), some y => if SeqAt.shaped (.list xs) && SeqAt.shaped y then (match indexP y xs 0 with
      | some j => .ok (.int (j : Nat)) m
      | none => .no) else .no
    | _, _ => .no)
  | _ => .no
theorem indexD_ok : MtD X T indexD (rIndexD X.K) := by
  intro W σ μ H m d ds x xs Q S r rs q
  unfold indexD at q
  split at q
  · obtain ⟨v, rfl, r1⟩ := repL1 rs
    split at q
    · rename_i zs y h1 h2
      split at q
      · rename_i hs
        rw [Bool.and_eq_true] at hs
        split at q
        · rename_i j hj
          have dl := dataOf_dp S r h1
          obtain ⟨a, rfl⟩ := dp_list_ref dl
          obtain ⟨i, z, e, g1, g2, g3⟩ := indexP_spec hj
          rw [Nat.zero_add] at e
          subst e
          exact ⟨a, v, y, zs, j, z, rfl, rfl, dl, data_dp _ r1 h2, hs.1, hs.2, g1, g2, g3, post_here (a := D.int _) S rfl q⟩
        · exact q.elim
      · exact q.elim
    · exact q.elim
  · exact q.elim
/-! ### t * k -/
def rRepTF (K : PySem.W.Frag) : R2 := fun x y H Q => ∃ l k xs, x = .ref l ∧ y = .int k ∧ SqT K H l xs ∧ xs ≠ [] ∧ 2 ≤ k ∧ k ≤ 1000 ∧ xs.length ≤ 1000 ∧ ∀ p o, o.dict = none → H p = none → Q (.ref p) (upd H p (.frz o (.tup (List.replicate k.toNat xs).flatten)))
theorem vals_flat {xs : List V} {its : List Value} (r : Vals xs its) : ∀ n : Nat, Vals (List.replicate n xs).flatten (List.replicate n its).flatten
  | 0 => .nil
  | n + 1 => by
    rw [List.replicate_succ, List.replicate_succ, List.flatten_cons, List.flatten_cons]
    exact r.append (vals_flat r n)
theorem op_repTF : OpR X (binaryOp .Mult) (rRepTF X.K) := by
  intro pins s σ H x y v u Q I rx ry h
  obtain ⟨l, k, xs, rfl, rfl, hT, hne, h1, h2, hz, q⟩ := h
  cases rx
  obtain ⟨t, rfl⟩ := ry
  obtain ⟨its, r, ⟨⟨cls, dd, data, sl⟩, ho, hc, n, hd⟩, hs⟩ := I.tuple hT
  simp only at hc hd
  subst hc hd
  have hle : its.length = xs.length := r.length.symm
  have hpos : 1 ≤ its.length := by
    cases xs with
    | nil => exact absurd rfl hne
    | cons a b => rw [hle, List.length_cons]; omega
  have hi : its.toArray.isEmpty = false := by
    cases its with
    | nil => simp at hpos
    | cons a b => rfl
  have flen : (List.replicate k.toNat its).flatten.length ≤ 1000 * 1000 := by
    rw [PyProof.Rows.lm_len_rep_flat, hle]
    exact Nat.mul_le_mul (by omega) hz
  have hm : ((its.toArray.size : Nat) : Int) * k ≤ 1000 * 1000 := by
    rw [List.size_toArray]
    exact Int.mul_le_mul (by omega) h2 (by omega) (by omega)
  refine wpAny_binaryOp_repeat_ref (T := "tuple") (U := "int") (by decide) ⟨_, ho, rfl⟩ (fun s' => typeIs_int s' k t) noFill_tuple_mul F.fills_int_mul F.slot_int_rmul repeat_tuple F.slot_int_index.lookup
    (call_meets F.slot_int_rmul (typeIs_int s k t) F.entry_int_rmul (F.args_int_rmul_2 _ _) (int_rmul_tuple k t l its.toArray n dd sl)
      ⟨ho, rfl, ⟨_, ho, rfl⟩, call_meets F.slot_tuple_mul ⟨_, ho, rfl⟩ F.entry_tuple_mul (F.args_tuple_mul_2 _ _)
        (tuple_mulW l its.toArray n dd sl k t (by rw [decide_eq_false (by omega), decide_eq_false (by omega)] <;> rfl) (by rw [hi, Bool.false_or]; exact beq_eq_false_iff_ne.mpr (by omega)) (by rw [hi, Bool.or_false]; exact decide_eq_false (by omega)) (by omega)
          (by unfold Builtin.Tuple.tupleTooMany; rw [sizeLine_eq]; exact decide_eq_false (by omega)) (by rw [size_rep, List.size_toArray, sizeLine_eq]; omega)) ⟨ho, ?_⟩⟩)
  rw [size_rep]
  exact ⟨.ref s.heap.objs.size, _, I.laidT (tk := s.toks) (by rw [(vals_flat r k.toNat).length, sizeLine_eq]; omega) (vals_flat r k.toNat), rfl, q _ _ rfl (I.hok.fresh (Nat.le_refl _))⟩
/-- t * k, a text or a tuple or two ints -/
def mulAD : D → D → List C → R D := fun a b m => match a, b with
  | .int i, .int j => if mulOk i j then .ok (.int (i * j)) m else .no
  | .str x, .int k => if 0 ≤ k ∧ k ≤ 100000 ∧ x.length ≤ 100 then .ok (.str (repS x k.toNat)) m else .no
  | .tup l, .int k => if l ≠ [] ∧ 2 ≤ k ∧ k ≤ 1000 ∧ l.length ≤ 1000 then .ok (.tup (List.replicate k.toNat l).flatten) m else .no
  | _, _ => .no
def rMulA (K : PySem.W.Frag) : R2 := fun x y H Q => rI CMulW (fun i j => .int (i * j)) x y H Q ∨ rMulS x y H Q ∨ rRepTF K x y H Q
theorem op_mulA : OpR X (binaryOp .Mult) (rMulA X.K) := op_mulW.or (op_mulS.or op_repTF)
theorem mulAD_ok : OpD X T mulAD (rMulA X.K) := by
  intro W σ μ H m d1 d2 x y Q S r1 r2 q
  unfold mulAD at q
  split at q
  · rename_i i j
    exact .inl (mulD_ok W σ μ H m (.int i) (.int j) x y Q S r1 r2 q)
  · cases r1; cases r2
    split at q
    · rename_i h
      exact .inr (.inl ⟨_, _, rfl, rfl, h.1, h.2.1, h.2.2, post_here (a := D.str _) S rfl q⟩)
    · exact q.elim
  · cases r2
    obtain ⟨a, xs, rfl, s1, q1⟩ := r1
    split at q
    · rename_i l k h
      refine .inr (.inr ⟨a, _, xs, rfl, rfl, s1.sqt, ?_, h.2.1, h.2.2.1, by rw [← q1.length]; exact h.2.2.2, post_newT S (q1.flat _) q⟩)
      intro e
      subst e
      cases l with
      | nil => exact h.1 rfl
      | cons => obtain ⟨_, _, z, _⟩ := q1; cases z
    · exact q.elim
  · exact q.elim
end
end DL


/-! DLt: x.replace(y, z) of written texts, behind a written text. -/
namespace DL
open PySem PySem.Spec L2
open PyProof.Rows hiding St pairD intD cutD
section
variable {X : Cx} {T : List (Addr × Str)} {W : WX}
/-- an expression that wants a token to be out -/
structure DET (X : Cx) (T : List (Addr × Str)) (W : WX) (e : Expr) (F : ES) : Prop where
  run : PET X e (tG (Rep X.K) T X.K W F)
theorem pet_weak {e : Expr} {t t' : TE} (h : PET X e t) (k : ∀ σ H Q, t' σ H Q → t σ H Q) : PET X e t' := fun pins s σ H Q h0 I q => h pins s σ H Q h0 I (k σ H Q q)
theorem det_of {e : Expr} {F : ES} (h : DE X T W e F) : DET X T W e F := ⟨CwR.PET.of h.run⟩
def replOk (x z : Str) : Bool := decide (x.length + (x.length + 1) * z.length ≤ 16777216)
def eRepl (y z : Str) (F : ES) : ES := fun ρ m => (F ρ m).bind fun d m1 => match d with
  | .str x => if replOk x z then .ok (.str (Txt.replace x y z)) m1 else .no
  | _ => .no
theorem det_repl {o : Expr} {F : ES} {y z : Str} {j k : Nat} {c0 c1 apos pos : Pos} (ho : DET X T W o F) (hyz : (y == z) = false := by decide)
    (hst : starEach [.Constant (.str y) j c0, .Constant (.str z) k c1] X.env = [(false, eval (.Constant (.str y) j c0) X.env), (false, eval (.Constant (.str z) k c1) X.env)] := by rfl)
    (hbase : attributeBase o "replace" X.env (eval o X.env) = eval o X.env := by rfl) (hline : (apos.endLine == pos.line) = true := by rfl) :
    DET X T W (.Call (.Attribute o "replace" apos) [.Constant (.str y) j c0, .Constant (.str z) k c1] [] pos) (eRepl y z F) :=
  ⟨pet_weak (CwR.pet_replT ho.run hyz hst hbase hline) fun σ H Q ⟨μ, ρ, m, er, s, q⟩ => tG_mk er s (q.bind fun d m1 μ1 H1 v x1 s1 r1 q1 => by
    split at q1
    · cases r1
      split at q1
      · rename_i x h
        exact ⟨_, rfl, of_decide_eq_true h, post_here (a := D.str _) s1 rfl q1⟩
      · exact q1.elim
    · exact q1.elim)⟩
theorem pe_op_strT {op : Operator} {r : R2} {c : Str} {j : Nat} {p1 pos : Pos} {f : Expr} {tf : TE} (ho : OpR X (binaryOp op) r) (hb : PET X f tf) : PE X (.BinOp (.Constant (.str c) j p1) op f pos) (tOp r (tC (.str c)) tf) := by
  refine ⟨fun pins s σ H Q I h => ?_⟩
  refine wpAny_BinOp (Calls.Constant_str ?_)
  exact thn (hb pins { s with toks := s.toks + 1 } σ H _ (by show 1 ≤ s.toks + 1; omega) (I.tok _) h) fun u s2 ⟨y, H2, I2, r2, q2⟩ => ho pins s2 σ H2 (.str c) y (.str c s.toks) u Q I2 ⟨_, rfl⟩ r2 q2
theorem de_binRT {op : Operator} {r : R2} {f : D → D → List C → R D} {c : Str} {j : Nat} {p1 pos : Pos} {b : Expr} {Fb : ES} (ho : OpR X (binaryOp op) r) (hf : OpD X T f r) (hb : DET X T W b Fb) :
    DE X T W (.BinOp (.Constant (.str c) j p1) op b pos) (eBin f (eC (.str c)) Fb) :=
  ⟨(pe_op_strT ho hb.run).weak fun σ H Q ⟨μ, ρ, m, e, s, q⟩ => tG_mk e s ((show Post (Rep X.K) T X.K W σ μ H ((Fb ρ m).bind fun y m2 => f (.str c) y m2) Q from q).bind fun d2 m2 μ2 H2 y x2 s2 r2 q2 => hf W σ μ2 H2 m2 (.str c) d2 (.str c) y Q s2 rfl r2 q2)⟩
/-! ### a, b, c = e1, e2, e3 -/
def sPar3 (i j l : Nat) (G : LS) : SS := fun ρ m => (G ρ m).go ρ fun ds m1 => match ds with
  | [d, e, f] => .nx (((ρ.set i (some d)).set j (some e)).set l (some f)) m1
  | _ => .no
theorem repL3 {K : PySem.W.Frag} {μ : List Addr} {H : Hp} {d e f : D} {vs : List V} (h : RepL K μ H [d, e, f] vs) : ∃ v u w, vs = [v, u, w] ∧ Rep K μ H d v ∧ Rep K μ H e u ∧ Rep K μ H f w := by
  obtain ⟨x, xs, rfl, r, h⟩ := h
  obtain ⟨y, z, rfl, r2, r3⟩ := repL2 h
  exact ⟨x, y, z, rfl, r, r2, r3⟩
theorem ds_par3 {pos : Pos} {i j l : Nat} {x y z : Str} {a b c : Expr} {G : LS} {px py pz pt : Pos} {kt k2 : _} {pt2 : Pos} (hc : X.calm = true) (hN : X.N.Nodup) (hi : X.N[i]? = some x) (hj : X.N[j]? = some y) (hl : X.N[l]? = some z) (hij : i ≠ j) (hil : i ≠ l) (hjl : j ≠ l)
    (hx : X.env.scope.names.lookup x = some .local) (hy : X.env.scope.names.lookup y = some .local) (hz : X.env.scope.names.lookup z = some .local)
    (ha : DA X T W [a, b, c] G) (hs : swappedStores [.Tuple [.Name x px, .Name y py, .Name z pz] kt pt] (.Tuple [a, b, c] k2 pt2) X.env = pure (some [x, y, z])) : DS X T W (.Assign [.Tuple [.Name x px, .Name y py, .Name z pz] kt pt] (.Tuple [a, b, c] k2 pt2) pos) (sPar3 i j l G) :=
  ⟨(ps_par3 hc hN hi hj hl hij hil hjl hx hy hz ha.run hs).weak fun Z σ H ⟨μ, ρ, m, er, s, q⟩ => tG_mk er s (q.go er fun ds m1 μ1 H1 vs x1 s1 r1 q1 => by
    split at q1
    · obtain ⟨v, u, w, rfl, r, r', r''⟩ := repL3 r1
      exact ⟨v, u, w, rfl, q1.nx_here s1 ((((er.ext x1).set r).set r').set r'')⟩
    · exact q1.elim)⟩
end
end DL


/-! DLp: signs of texts, kinds of things, what can be asked of anything okv. -/
namespace DL
open PySem PySem.Spec L2
open PyProof.Rows hiding St pairD intD cutD
/-! ### signs -/
abbrev one (c : Nat) : Str := ⟨#[c]⟩
theorem lt_one {a b : Nat} : (([a] : List Nat) < [b]) = (a < b) := by
  rw [List.cons_lt_cons_iff]
  simp
theorem sLe_one {a b : Nat} : sLe (one a) (one b) = decide (a ≤ b) := by
  show (!decide (([b] : List Nat) < [a])) = _
  rw [decide_eq_decide.mpr (iff_of_eq (lt_one (a := b) (b := a)))]
  by_cases h : a ≤ b
  · rw [decide_eq_true h, decide_eq_false (by omega)]; rfl
  · rw [decide_eq_false h, decide_eq_true (by omega)]; rfl
theorem strOk_one {c : Nat} : PyData.strOk (one c) = decide (c < 1114112) := by
  show (#[c]).all _ = _
  simp
theorem one_inj {a b : Nat} : (one a = one b) = (a = b) := by
  apply propext
  constructor
  · intro h
    have := congrArg Str.cps h
    simpa using this
  · intro h; rw [h]
theorem eq_one {a b : Nat} {m : List C} (ha : a < 1114112) (hb : b < 1114112) : eqD (.str (one a)) (.str (one b)) m = .ok (.bl (decide (a = b))) m := by
  rw [eqD_str (by rw [strOk_one]; exact decide_eq_true ha) (by rw [strOk_one]; exact decide_eq_true hb)]
  congr 2
  exact decide_eq_decide.mpr (iff_of_eq one_inj)
theorem cmpS_le {x y : Str} {m : List C} : cmpSD sLe (.str x) (.str y) m = .ok (.bl (sLe x y)) m := rfl
def codeOf : D → Nat
  | .str x => x.cps.getD 0 0
  | _ => 0
theorem strOk_mem {x : Str} {c : Nat} (h : PyData.strOk x = true) (hc : c ∈ x.cps.toList) : c < 1114112 := by
  unfold PyData.strOk at h
  rw [← Array.all_toList] at h
  exact of_decide_eq_true (List.all_eq_true.mp h c hc)
theorem strOk_of {x : Str} (h : ∀ c ∈ x.cps.toList, c < 1114112) : PyData.strOk x = true := by
  unfold PyData.strOk
  rw [← Array.all_toList]
  exact List.all_eq_true.mpr fun c hc => decide_eq_true (h c hc)
theorem len_toList {x : Str} : x.cps.toList.length = x.length := by simp [Str.length]
/-- a comprehension over the signs of a text, a flag for each -/
theorem lc_signs {L : LS} {i : Nat} {F : ES} {ρ : Env} {m : List C} {x : Str} (p : Nat → Bool) (hL : L ρ m = .ok (charsD x) m) (h : ∀ c ∈ x.cps.toList, F ((wipeD ρ [i]).set i (some (.str (one c)))) m = .ok (.bl (p c)) m) (hf : x.length ≤ 100000) :
    eLc L (gN i) [i] bYes F ρ m = .ok (.lst (x.cps.toList.map fun c => D.bl (p c))) m := by
  have := lc_pure (L := L) (g := gN i) (vs := [i]) (F := F) (ρ := ρ) (m := m) (l := charsD x) (fun d => .bl (p (codeOf d))) hL (fun d hd => by
    obtain ⟨c, hc, rfl⟩ := List.mem_map.mp hd
    exact ⟨_, rfl, h c hc⟩) (by rw [charsD, List.length_map, len_toList]; exact hf)
  rw [this, charsD, List.map_map]
  rfl
theorem iSeq_str {F : ES} {ρ : Env} {m m' : List C} {x : Str} (h : F ρ m = .ok (.str x) m') : iSeq F ρ m = .ok (charsD x) m' := by
  unfold iSeq
  rw [h]
  rfl
theorem iSeq_tup {F : ES} {ρ : Env} {m m' : List C} {l : List D} (h : F ρ m = .ok (.tup l) m') : iSeq F ρ m = .ok l m' := by
  unfold iSeq
  rw [h]
  rfl
theorem iSeq_lst {F : ES} {ρ : Env} {m m' : List C} {l : List D} (h : F ρ m = .ok (.lst l) m') : iSeq F ρ m = .ok l m' := by
  unfold iSeq
  rw [h]
  rfl
/-! ### anything that can be asked -/
mutual
def okv : D → Bool
  | .non => true
  | .bl _ => true
  | .int i => strOk i
  | .str x => PyData.strOk x && decide (x.length ≤ 100000)
  | .tup l => okvL l && decide (l.length ≤ 100000)
  | .lst l => okvL l && decide (l.length ≤ 100000)
  | .dic _ vs => okvL vs
  | _ => false
def okvL : List D → Bool
  | [] => true
  | d :: l => okv d && okvL l
end
theorem okvL_mem : ∀ {l : List D} {d : D}, okvL l = true → d ∈ l → okv d = true
  | d :: l, x, h, hx => by
    unfold okvL at h
    rw [Bool.and_eq_true] at h
    rcases List.mem_cons.mp hx with rfl | hx
    · exact h.1
    · exact okvL_mem h.2 hx
theorem okvL_of : ∀ {l : List D}, (∀ d ∈ l, okv d = true) → okvL l = true
  | [], _ => rfl
  | d :: l, h => by
    unfold okvL
    rw [h d List.mem_cons_self, okvL_of fun x hx => h x (List.mem_cons_of_mem _ hx)]
    rfl
theorem okv_tup {l : List D} (h : ∀ d ∈ l, okv d = true) (hl : l.length ≤ 100000) : okv (.tup l) = true := by
  unfold okv
  rw [okvL_of h, decide_eq_true hl]
  rfl
theorem okv_lst {l : List D} (h : ∀ d ∈ l, okv d = true) (hl : l.length ≤ 100000) : okv (.lst l) = true := by
  unfold okv
  rw [okvL_of h, decide_eq_true hl]
  rfl
theorem okv_tup_mem {l : List D} {d : D} (h : okv (.tup l) = true) (hd : d ∈ l) : okv d = true := by
  unfold okv at h
  rw [Bool.and_eq_true] at h
  exact okvL_mem h.1 hd
theorem okv_tup_len {l : List D} (h : okv (.tup l) = true) : l.length ≤ 100000 := by
  unfold okv at h
  rw [Bool.and_eq_true] at h
  exact of_decide_eq_true h.2
theorem okv_lst_mem {l : List D} {d : D} (h : okv (.lst l) = true) (hd : d ∈ l) : okv d = true := by
  unfold okv at h
  rw [Bool.and_eq_true] at h
  exact okvL_mem h.1 hd
theorem okv_lst_len {l : List D} (h : okv (.lst l) = true) : l.length ≤ 100000 := by
  unfold okv at h
  rw [Bool.and_eq_true] at h
  exact of_decide_eq_true h.2
theorem okv_str {x : Str} (h : okv (.str x) = true) : PyData.strOk x = true ∧ x.length ≤ 100000 := by
  unfold okv at h
  rw [Bool.and_eq_true] at h
  exact ⟨h.1, of_decide_eq_true h.2⟩
def isTupB : D → Bool
  | .tup _ => true
  | _ => false
def isStrB : D → Bool
  | .str _ => true
  | _ => false
def isLstB : D → Bool
  | .lst _ => true
  | _ => false
def isBlB : D → Bool
  | .bl _ => true
  | _ => false
def isIntB : D → Bool
  | .int _ => true
  | _ => false
section
variable {d : D} {m : List C}
theorem isi_tup (h : okv d = true) : isiD [d, .ty "tuple"] m = .ok (.bl (isTupB d)) m := by
  cases d <;> first | rfl | (simp [okv] at h)
theorem isi_str (h : okv d = true) : isiD [d, .ty "str"] m = .ok (.bl (isStrB d)) m := by
  cases d <;> first | rfl | (simp [okv] at h)
theorem isi_bool (h : okv d = true) : isiD [d, .ty "bool"] m = .ok (.bl (isBlB d)) m := by
  cases d <;> first | rfl | (simp [okv] at h)
theorem isi_int (h : okv d = true) : isiD [d, .ty "int"] m = .ok (.bl (isIntB d || isBlB d)) m := by
  cases d <;> first | rfl | (simp [okv] at h)
theorem isi_seq (h : okv d = true) : isiD [d, .tup [.ty "tuple", .ty "list"]] m = .ok (.bl (isTupB d || isLstB d)) m := by
  cases d <;> first | rfl | (simp [okv] at h)
end
theorem isTup_of {d : D} (h : isTupB d = true) : ∃ l, d = .tup l := by
  cases d <;> first | exact ⟨_, rfl⟩ | cases h
theorem isStr_of {d : D} (h : isStrB d = true) : ∃ l, d = .str l := by
  cases d <;> first | exact ⟨_, rfl⟩ | cases h
theorem isInt_of {d : D} (h : isIntB d = true) : ∃ l, d = .int l := by
  cases d <;> first | exact ⟨_, rfl⟩ | cases h
/-! ### words, names, texts -/
def textC (c : Nat) : Bool := (decide (32 ≤ c) && decide (c ≤ 126)) || decide (c = 10)
def lineC (c : Nat) : Bool := decide (32 ≤ c) && decide (c ≤ 126)
def lowC (c : Nat) : Bool := decide (97 ≤ c) && decide (c ≤ 122)
def allS (p : Nat → Bool) : D → Bool
  | .str x => x.cps.toList.all p
  | _ => false
def textB (d : D) : Bool := allS textC d
def wordB : D → Bool
  | .str x => decide (x.length ≤ 20) && x.cps.toList.all lineC
  | _ => false
def nameB : D → Bool
  | .str x => (decide (1 ≤ x.length) && decide (x.length ≤ 8)) && x.cps.toList.all lowC
  | _ => false
def cellB (d : D) : Bool := isIntB d || wordB d
def inB2 (lo hi : Int) : D → Bool
  | .int i => decide (lo ≤ i) && decide (i ≤ hi)
  | _ => false
def szB (lo hi : Int) : D → Bool
  | .tup l => decide (lo ≤ (l.length : Int)) && decide ((l.length : Int) ≤ hi)
  | _ => false
def rowB : D → Bool
  | .tup l => (decide (1 ≤ (l.length : Int)) && decide ((l.length : Int) ≤ 5)) && l.all cellB
  | _ => false
def isRule : D → Bool
  | .str x => decide (x = "rule")
  | _ => false
def rule2B : D → Bool
  | .tup [c, d] => nameB c && textB d
  | _ => false
def factB : D → Bool
  | .tup [a, b] => nameB a && (if isRule a then rule2B b else rowB b)
  | _ => false
theorem two_of {d : D} (h : szB 2 2 d = true) : ∃ a b, d = .tup [a, b] := by
  cases d <;> first | cases h | skip
  case tup l =>
    match l with
    | [a, b] => exact ⟨a, b, rfl⟩
    | [] => cases h
    | [a] => cases h
    | a :: b :: c :: l =>
      exfalso
      unfold szB at h
      rw [Bool.and_eq_true, decide_eq_true_eq, decide_eq_true_eq] at h
      simp only [List.length_cons] at h
      omega
theorem fact_no {d : D} (h : szB 2 2 d = false) : factB d = false := by
  cases d <;> first | rfl | skip
  case tup l =>
    match l with
    | [a, b] => cases h
    | [] => rfl
    | [a] => rfl
    | a :: b :: c :: l => rfl
theorem rule2_no {d : D} (h : szB 2 2 d = false) : rule2B d = false := by
  cases d <;> first | rfl | skip
  case tup l =>
    match l with
    | [a, b] => cases h
    | [] => rfl
    | [a] => rfl
    | a :: b :: c :: l => rfl
theorem name_str {d : D} (h : nameB d = true) : ∃ x, d = .str x := by
  cases d <;> first | exact ⟨_, rfl⟩ | cases h
theorem fits_le {n : Nat} (h : n ≤ 100000) : fits n = true := fits_small h
section
variable {c : Nat} {m : List C}
theorem le_sp : sLe " " (one c) = decide (32 ≤ c) := sLe_one (a := 32)
theorem le_ti : sLe (one c) "~" = decide (c ≤ 126) := sLe_one (b := 126)
theorem le_a : sLe "a" (one c) = decide (97 ≤ c) := sLe_one (a := 97)
theorem le_z : sLe (one c) "z" = decide (c ≤ 122) := sLe_one (b := 122)
theorem eq_lf (h : c < 1114112) : eqD (.str (one c)) (.str "\n") m = .ok (.bl (decide (c = 10))) m := eq_one (b := 10) h (by decide)
/-- a sign of a line -/
theorem line_sign {ρ : Env} {i : Nat} (hi : ρ[i]? = some (some (.str (one c)))) : eChain (cmpSD sLe) (cmpSD sLe) (eC (.str " ")) (eVar i) (eC (.str "~")) ρ m = .ok (.bl (lineC c)) m := by
  unfold eChain eC eVar
  simp only [hi, R.bind_ok, cmpS_le, le_sp]
  unfold lineC
  cases decide (32 ≤ c) with
  | false => rfl
  | true =>
    simp only [R.bind_ok, cmpS_le, le_ti]
    rfl
theorem low_sign {ρ : Env} {i : Nat} (hi : ρ[i]? = some (some (.str (one c)))) : eChain (cmpSD sLe) (cmpSD sLe) (eC (.str "a")) (eVar i) (eC (.str "z")) ρ m = .ok (.bl (lowC c)) m := by
  unfold eChain eC eVar
  simp only [hi, R.bind_ok, cmpS_le, le_a]
  unfold lowC
  cases decide (97 ≤ c) with
  | false => rfl
  | true =>
    simp only [R.bind_ok, cmpS_le, le_z]
    rfl
theorem or_bl {F G : ES} {ρ : Env} {b b2 : Bool} (h : F ρ m = .ok (.bl b) m) (h2 : G ρ m = .ok (.bl b2) m) : eOr F G ρ m = .ok (.bl (b || b2)) m := by
  unfold eOr
  rw [h]
  cases b with
  | true => rfl
  | false =>
    show G ρ m = _
    rw [h2]
    rfl
theorem and_bl {F G : ES} {ρ : Env} {b b2 : Bool} (h : F ρ m = .ok (.bl b) m) (h2 : b = true → G ρ m = .ok (.bl b2) m) : eAnd F G ρ m = .ok (.bl (b && b2)) m := by
  unfold eAnd
  rw [h]
  cases b with
  | false => rfl
  | true =>
    show G ρ m = _
    rw [h2 rfl]
    rfl
/-- all of the signs of a text -/
theorem all_signs {i : Nat} {F : ES} {L : LS} {ρ : Env} {x : Str} (p : Nat → Bool) (hL : L ρ m = .ok (charsD x) m) (h : ∀ c ∈ x.cps.toList, F ((wipeD ρ [i]).set i (some (.str (one c)))) m = .ok (.bl (p c)) m) (hf : x.length ≤ 100000) :
    eAr allD (aCons (eLc L (gN i) [i] bYes F) aNil) ρ m = .ok (.bl (x.cps.toList.all p)) m := by
  unfold eAr aCons aNil
  rw [lc_signs p hL h hf]
  exact all_eq
theorem all_map {i : Nat} {F : ES} {L : LS} {ρ : Env} {l : List D} (p : D → Bool) (hL : L ρ m = .ok l m) (h : ∀ d ∈ l, F ((wipeD ρ [i]).set i (some d)) m = .ok (.bl (p d)) m) (hf : l.length ≤ 100000) :
    eAr allD (aCons (eLc L (gN i) [i] bYes F) aNil) ρ m = .ok (.bl (l.all p)) m := by
  unfold eAr aCons aNil
  rw [lc_pure (fun d => .bl (p d)) hL (fun d hd => ⟨_, rfl, h d hd⟩) hf]
  exact all_eq
end
/-! ### evaluation, part by part -/
section
variable {ρ : Env} {m m1 m2 m3 m4 : List C} {F Fa Fb Fc : ES} {A B : BS} {a b c d : D} {G : FS} {f g : D → D → List C → R D} {p q : Bool}
theorem ev_var {i : Nat} (h : ρ[i]? = some (some d)) : eVar i ρ m = .ok d m := by
  unfold eVar
  rw [h]
theorem ev_call1 (ha : Fa ρ m = .ok a m1) (hg : G [a] m1 = .ok d m2) : eCall 1 G (aCons Fa aNil) ρ m = .ok d m2 := by
  unfold eCall aCons aNil
  simp only [ha, R.bind_ok]
  exact hg
theorem ev_call2 (ha : Fa ρ m = .ok a m1) (hb : Fb ρ m1 = .ok b m2) (hg : G [a, b] m2 = .ok d m3) : eCall 2 G (aCons Fa (aCons Fb aNil)) ρ m = .ok d m3 := by
  unfold eCall aCons aNil
  simp only [ha, hb, R.bind_ok]
  exact hg
theorem ev_call3 (ha : Fa ρ m = .ok a m1) (hb : Fb ρ m1 = .ok b m2) (hc : Fc ρ m2 = .ok c m3) (hg : G [a, b, c] m3 = .ok d m4) : eCall 3 G (aCons Fa (aCons Fb (aCons Fc aNil))) ρ m = .ok d m4 := by
  unfold eCall aCons aNil
  simp only [ha, hb, hc, R.bind_ok]
  exact hg
theorem ev_ar1 (ha : Fa ρ m = .ok a m1) (hg : G [a] m1 = .ok d m2) : eAr G (aCons Fa aNil) ρ m = .ok d m2 := by
  unfold eAr aCons aNil
  simp only [ha, R.bind_ok]
  exact hg
theorem ev_ar2 (ha : Fa ρ m = .ok a m1) (hb : Fb ρ m1 = .ok b m2) (hg : G [a, b] m2 = .ok d m3) : eAr G (aCons Fa (aCons Fb aNil)) ρ m = .ok d m3 := by
  unfold eAr aCons aNil
  simp only [ha, hb, R.bind_ok]
  exact hg
theorem ev_bin (ha : Fa ρ m = .ok a m1) (hb : Fb ρ m1 = .ok b m2) (hf : f a b m2 = .ok d m3) : eBin f Fa Fb ρ m = .ok d m3 := by
  unfold eBin
  simp only [ha, hb, R.bind_ok]
  exact hf
theorem ev_chain (ha : Fa ρ m = .ok a m) (hb : Fb ρ m = .ok b m) (hf : f a b m = .ok (.bl p) m) (hc : Fc ρ m = .ok c m) (hg : g b c m = .ok (.bl q) m) : eChain f g Fa Fb Fc ρ m = .ok (.bl (p && q)) m := by
  unfold eChain
  simp only [ha, hb, hf, R.bind_ok]
  cases p with
  | false => rfl
  | true =>
    simp only [hc, hg, R.bind_ok]
    rfl
theorem ev_not (h : F ρ m = .ok (.bl p) m1) : eNot F ρ m = .ok (.bl (!p)) m1 := by
  unfold eNot
  rw [h]
  rfl
theorem ev_if (h : A ρ m = .ok p m1) (h1 : p = true → Fa ρ m1 = .ok d m2) (h2 : p = false → Fb ρ m1 = .ok d m2) : eIf A Fa Fb ρ m = .ok d m2 := by
  unfold eIf
  rw [h]
  cases p with
  | true => exact h1 rfl
  | false => exact h2 rfl
theorem bv_test (h : F ρ m = .ok (.bl p) m1) : bTest F ρ m = .ok p m1 := by
  unfold bTest
  rw [h]
  rfl
theorem bv_tru (h : F ρ m = .ok d m1) (ht : truD m1 d = some p) : bTru F ρ m = .ok p m1 := by
  unfold bTru
  rw [h, R.bind_ok, ht]
theorem bv_trub (h : F ρ m = .ok (.bl p) m1) : bTru F ρ m = .ok p m1 := bv_tru h rfl
theorem bv_not (h : A ρ m = .ok p m1) : bNot A ρ m = .ok (!p) m1 := by
  unfold bNot
  rw [h]
  rfl
theorem bv_and (h : A ρ m = .ok p m) (h2 : p = true → B ρ m = .ok q m) : bAnd A B ρ m = .ok (p && q) m := by
  unfold bAnd
  rw [h]
  cases p with
  | false => rfl
  | true => exact h2 rfl
theorem bv_or (h : A ρ m = .ok p m) (h2 : p = false → B ρ m = .ok q m) : bOr A B ρ m = .ok (p || q) m := by
  unfold bOr
  rw [h]
  cases p with
  | true => rfl
  | false => exact h2 rfl
theorem fn_ret {n : Nat} {ds : List D} (h : F (startD n ds) m = .ok d m1) : fnD n (sRet F) ds m = .ok d m1 := by
  unfold fnD sRet
  rw [h]
  rfl
theorem fn_exc {n : Nat} {ds : List D} {S : SS} {c : Addr} {ns : List Str} {vs : List D} {ρ1 : Env} (h : S (startD n ds) m = .ex c ns vs ρ1 m1) : fnD n S ds m = .exc c ns vs m1 := by
  unfold fnD
  rw [h]
theorem fn_rt {n : Nat} {ds : List D} {S : SS} (h : S (startD n ds) m = .rt d m1) : fnD n S ds m = .ok d m1 := by
  unfold fnD
  rw [h]
theorem fn_nx {n : Nat} {ds : List D} {S : SS} {ρ1 : Env} (h : S (startD n ds) m = .nx ρ1 m1) : fnD n S ds m = .ok .non m1 := by
  unfold fnD
  rw [h]
variable {S S' : SS} {r : RS} {ρ1 : Env}
theorem sv_seq (h : S ρ m = .nx ρ1 m1) (h2 : S' ρ1 m1 = r) : sSeq S S' ρ m = r := by
  unfold sSeq
  rw [h]
  exact h2
theorem sv_seqR (h : S ρ m = .rt d m1) : sSeq S S' ρ m = .rt d m1 := by
  unfold sSeq
  rw [h]
  rfl
theorem sv_seqX {c : Addr} {ns : List Str} {vs : List D} (h : S ρ m = .ex c ns vs ρ1 m1) : sSeq S S' ρ m = .ex c ns vs ρ1 m1 := by
  unfold sSeq
  rw [h]
  rfl
theorem sv_set {i : Nat} (h : F ρ m = .ok d m1) : sSet i F ρ m = .nx (ρ.set i (some d)) m1 := by
  unfold sSet
  rw [h]
  rfl
theorem sv_ret (h : F ρ m = .ok d m1) : sRet F ρ m = .rt d m1 := by
  unfold sRet
  rw [h]
  rfl
theorem sv_expr (h : F ρ m = .ok d m1) : sExpr F ρ m = .nx ρ m1 := by
  unfold sExpr
  rw [h]
  rfl
theorem sv_exprX {c : Addr} {ns : List Str} {vs : List D} (h : F ρ m = .exc c ns vs m1) : sExpr F ρ m = .ex c ns vs ρ m1 := by
  unfold sExpr
  rw [h]
  rfl
theorem sv_retX {c : Addr} {ns : List Str} {vs : List D} (h : F ρ m = .exc c ns vs m1) : sRet F ρ m = .ex c ns vs ρ m1 := by
  unfold sRet
  rw [h]
  rfl
theorem ev_call1X {c : Addr} {ns : List Str} {vs : List D} (ha : Fa ρ m = .ok a m1) (hg : G [a] m1 = .exc c ns vs m2) : eCall 1 G (aCons Fa aNil) ρ m = .exc c ns vs m2 := by
  unfold eCall aCons aNil
  simp only [ha, R.bind_ok]
  exact hg
theorem sv_ifT (h : A ρ m = .ok true m1) (h2 : S ρ m1 = r) : sIf A S S' ρ m = r := by
  unfold sIf
  rw [h]
  exact h2
theorem sv_ifF (h : A ρ m = .ok false m1) (h2 : S' ρ m1 = r) : sIf A S S' ρ m = r := by
  unfold sIf
  rw [h]
  exact h2
theorem sv_if (h : A ρ m = .ok p m1) (h1 : p = true → S ρ m1 = r) (h2 : p = false → S' ρ m1 = r) : sIf A S S' ρ m = r := by
  unfold sIf
  rw [h]
  cases p with
  | true => exact h1 rfl
  | false => exact h2 rfl
theorem loop_cons {g : GS} {B : SS} {ds : List D} {ρ2 : Env} (hg : g d ρ m = some ρ1) (hb : B ρ1 m = .nx ρ2 m2) (h : loopD g B ds ρ2 m2 = r) : loopD g B (d :: ds) ρ m = r := by
  unfold loopD
  rw [hg]
  show (B ρ1 m).turn _ = _
  rw [hb]
  exact h
theorem sv_for {g : GS} {B : SS} {L : LS} {l : List D} (hl : L ρ m = .ok l m1) (h : loopD g B l ρ m1 = r) : sFor L g B ρ m = r := by
  unfold sFor
  rw [hl]
  exact h
end
end DL


/-! DLu: texts: joined, replaced, of ints; what they hold. -/
namespace DL
open PySem PySem.Spec L2
open PyProof.Rows hiding St pairD intD cutD
/-! ### comprehensions of texts, joins -/
theorem lc_signsD {L : LS} {i : Nat} {F : ES} {ρ : Env} {m : List C} {x : Str} (f : Nat → D) (hL : L ρ m = .ok (charsD x) m) (h : ∀ c ∈ x.cps.toList, F ((wipeD ρ [i]).set i (some (.str (one c)))) m = .ok (f c) m) (hf : x.length ≤ 100000) :
    eLc L (gN i) [i] bYes F ρ m = .ok (.lst (x.cps.toList.map f)) m := by
  have := lc_pure (L := L) (g := gN i) (vs := [i]) (F := F) (ρ := ρ) (m := m) (l := charsD x) (fun d => f (codeOf d)) hL (fun d hd => by
    obtain ⟨c, hc, rfl⟩ := List.mem_map.mp hd
    exact ⟨_, rfl, h c hc⟩) (by rw [charsD, List.length_map, len_toList]; exact hf)
  rw [this, charsD, List.map_map]
  rfl
theorem strsD_map : ∀ ys : List Str, strsD (ys.map D.str) = some ys
  | [] => rfl
  | y :: ys => by
    show (strsD (ys.map D.str)).map (y :: ·) = _
    rw [strsD_map ys]
    rfl
theorem ev_join {a : Str} {F : ES} {ρ : Env} {m m1 : List C} {ys : List Str} (h : F ρ m = .ok (.lst (ys.map D.str)) m1) (ho : joinOk a ys = true) : eMt "str" joinD (eC (.str a)) (aCons F aNil) ρ m = .ok (.str (Txt.join a ys)) m1 := by
  unfold eMt eC aCons aNil
  simp only [R.bind_ok, tagOf, if_true, h]
  show (match (seqOf m1 (.lst (ys.map D.str))).bind strsD with
    | some ys => if joinOk a ys then R.ok (D.str (Txt.join a ys)) m1 else .no
    | none => .no) = _
  rw [show (seqOf m1 (.lst (ys.map D.str))).bind strsD = some ys from strsD_map ys]
  show (if joinOk a ys then R.ok (D.str (Txt.join a ys)) m1 else .no) = _
  rw [ho]
  rfl
theorem sum_le {α : Type} {f : α → Nat} {k : Nat} : ∀ {l : List α}, (∀ x ∈ l, f x ≤ k) → (l.map f).sum ≤ l.length * k
  | [], _ => by simp
  | x :: l, h => by
    have h1 := h x List.mem_cons_self
    have h2 := sum_le (l := l) fun y hy => h y (List.mem_cons_of_mem _ hy)
    rw [List.map_cons, List.sum_cons, List.length_cons, Nat.succ_mul]
    omega
theorem joinOk_le {a : Str} {ys : List Str} {k n : Nat} (h : ∀ y ∈ ys, y.length ≤ k) (hn : ys.length ≤ n) (hs : n * k + n * a.length ≤ 16777216) : joinOk a ys = true := by
  unfold joinOk
  have h1 := sum_le (f := fun y : Str => y.length) h
  have h2 : ys.length * k ≤ n * k := Nat.mul_le_mul_right _ hn
  have h3 : ys.length * a.length ≤ n * a.length := Nat.mul_le_mul_right _ hn
  exact decide_eq_true (by omega)
theorem tl_join (a : Str) (ys : List Str) : (Txt.join a ys).cps.toList = TL.joinL a.cps.toList (ys.map fun y => y.cps.toList) := by
  rw [TL.join_eq]
  exact TL.tl_join a ys
theorem joinL_nil : ∀ l : List (List Nat), TL.joinL [] l = l.flatten
  | [] => rfl
  | [x] => by simp [TL.joinL]
  | x :: y :: l => by
    have := joinL_nil (y :: l)
    simp [TL.joinL] at this ⊢
    exact this
theorem str_ext {x y : Str} (h : x.cps.toList = y.cps.toList) : x = y := TL.ext_tl h
theorem tl_add (x y : Str) : (x ++ y).cps.toList = x.cps.toList ++ y.cps.toList := TL.tl_append x y
theorem strIn_one {c : Nat} {y : Str} : strIn (one c) y = decide (c ∈ y.cps.toList) := StrLaws.found_one y c
/-! ### replacing one sign -/
theorem repl1 {a : Nat} {z : List Nat} : ∀ l : List Nat, PySem.StrLaws.replL [a] z l = l.flatMap fun c => if c = a then z else [c]
  | [] => by rw [PySem.StrLaws.replL_nil]; rfl
  | c :: l => by
    rw [List.flatMap_cons]
    by_cases h : c = a
    · rw [PySem.StrLaws.replL_hit (by simp) (by simp [h]), if_pos h]
      show z ++ PySem.StrLaws.replL [a] z l = _
      rw [repl1 l]
    · rw [PySem.StrLaws.replL_miss (by simp [h]), if_neg h, repl1 l]
      rfl
theorem replace1 {x y z : Str} {a : Nat} (hy : y = one a) : (Txt.replace x y z).cps.toList = x.cps.toList.flatMap fun c => if c = a then z.cps.toList else [c] := by
  subst hy
  rw [PySem.StrLaws.replace_list (show 1 ≤ (one a).length from Nat.le_refl 1)]
  exact repl1 _
theorem ev_repl {y z : Str} {F : ES} {ρ : Env} {m m1 : List C} {x : Str} (h : F ρ m = .ok (.str x) m1) (ho : replOk x z = true) : eRepl y z F ρ m = .ok (.str (Txt.replace x y z)) m1 := by
  unfold eRepl
  rw [h]
  show (if replOk x z then R.ok (D.str (Txt.replace x y z)) m1 else .no) = _
  rw [ho]
  rfl
theorem replOk_le {x z : Str} {k n : Nat} (hx : x.length ≤ k) (hz : z.length ≤ n) (h : k + (k + 1) * n ≤ 16777216) : replOk x z = true := by
  unfold replOk
  have : (x.length + 1) * z.length ≤ (k + 1) * n := Nat.mul_le_mul (by omega) hz
  exact decide_eq_true (by omega)
theorem replace_len {x y z : Str} : (Txt.replace x y z).length ≤ x.length + (x.length + 1) * z.length := TK.replace_len x y z
/-! ### signs that are none too great -/
theorem strOk_add {x y : Str} (hx : PyData.strOk x = true) (hy : PyData.strOk y = true) : PyData.strOk (x ++ y) = true := strOk_of fun c hc => by
  rw [tl_add] at hc
  rcases List.mem_append.mp hc with h | h
  · exact strOk_mem hx h
  · exact strOk_mem hy h
theorem mem_joinL {a : List Nat} {c : Nat} : ∀ {l : List (List Nat)}, c ∈ TL.joinL a l → c ∈ a ∨ ∃ x ∈ l, c ∈ x
  | [], h => by simp [TL.joinL] at h
  | [x], h => .inr ⟨x, by simp, by simpa [TL.joinL] using h⟩
  | x :: y :: l, h => by
    rw [show TL.joinL a (x :: y :: l) = x ++ (a ++ TL.joinL a (y :: l)) by simp [TL.joinL]] at h
    rcases List.mem_append.mp h with h | h
    · exact .inr ⟨x, by simp, h⟩
    · rcases List.mem_append.mp h with h | h
      · exact .inl h
      · rcases mem_joinL h with h | ⟨z, hz, h⟩
        · exact .inl h
        · exact .inr ⟨z, List.mem_cons_of_mem _ hz, h⟩
theorem strOk_join {a : Str} {ys : List Str} (ha : PyData.strOk a = true) (h : ∀ y ∈ ys, PyData.strOk y = true) : PyData.strOk (Txt.join a ys) = true := strOk_of fun c hc => by
  rw [tl_join] at hc
  rcases mem_joinL hc with hc | ⟨x, hx, hc⟩
  · exact strOk_mem ha hc
  · obtain ⟨y, hy, rfl⟩ := List.mem_map.mp hx
    exact strOk_mem (h y hy) hc
theorem len_joinL {a : List Nat} : ∀ l : List (List Nat), (TL.joinL a l).length ≤ (l.map List.length).sum + l.length * a.length
  | [] => by simp [TL.joinL]
  | [x] => by simp [TL.joinL]
  | x :: y :: l => by
    have := len_joinL (a := a) (y :: l)
    rw [show TL.joinL a (x :: y :: l) = x ++ (a ++ TL.joinL a (y :: l)) by simp [TL.joinL]]
    rw [List.length_append, List.length_append, List.map_cons, List.sum_cons, List.length_cons (as := y :: l), Nat.succ_mul]
    omega
theorem len_joinS {a : Str} {ys : List Str} {k n : Nat} (h : ∀ y ∈ ys, y.length ≤ k) (hn : ys.length ≤ n) : (Txt.join a ys).length ≤ n * k + n * a.length := by
  rw [← len_toList, tl_join]
  refine Nat.le_trans (len_joinL _) ?_
  rw [List.map_map, List.length_map, show (List.length ∘ fun y : Str => y.cps.toList) = fun y : Str => y.length from funext fun y => len_toList]
  have h1 := sum_le (f := fun y : Str => y.length) h
  have h2 : ys.length * k ≤ n * k := Nat.mul_le_mul_right _ hn
  have h3 : ys.length * a.cps.toList.length ≤ n * a.length := by rw [len_toList]; exact Nat.mul_le_mul_right _ hn
  omega
theorem len_add {x y : Str} : (x ++ y).length = x.length + y.length := by
  rw [← len_toList, tl_add, List.length_append, len_toList, len_toList]
/-! ### the text of an int -/
abbrev intT (i : Int) : Str := Str.ofString (toString i)
theorem int_codes {i : Int} {c : Nat} (h : c ∈ (intT i).cps.toList) : c = 45 ∨ 48 ≤ c ∧ c ≤ 57 := by
  by_cases h1 : c = 45
  · exact .inl h1
  · right
    by_cases h2 : c < 48 ∨ 57 < c
    · exact absurd h (int_text_free' c ⟨h1, h2⟩ i)
    · omega
theorem strOk_int {i : Int} : PyData.strOk (intT i) = true := strOk_of fun c hc => by
  rcases int_codes hc with h | h <;> omega
theorem len_int {i : Int} (h : strOk i = true) : (intT i).length ≤ 1921 := int_text_len_1921 (of_decide_eq_true h)
theorem strD_eq {i : Int} {m : List C} (h : strOk i = true) : strD [.int i] m = .ok (.str (intT i)) m := by
  show (if strOk i then R.ok (D.str (intT i)) m else .no) = _
  rw [h]
  rfl
theorem mulOk_abs {i j : Int} (h1 : i.natAbs < 1000000000000000000000000000000000000000000000000000000000000) (h2 : j.natAbs < 1000000000000000000000000000000000000000000000000000000000000) : mulOk i j = true :=
  mulOk_of (Nat.lt_of_lt_of_le (show i.natAbs < 2 ^ 200 by omega) (Nat.pow_le_pow_right (by decide) (by decide))) (Nat.lt_of_lt_of_le (show j.natAbs < 2 ^ 200 by omega) (Nat.pow_le_pow_right (by decide) (by decide)))
theorem mul_eq {i j : Int} {m : List C} (h : mulOk i j = true) : mulD (.int i) (.int j) m = .ok (.int (i * j)) m := by rw [mulD_int, h]; rfl
theorem mod_eq {i j : Int} {m : List C} (h : 0 < j) : modD (.int i) (.int j) m = .ok (.int (i % j)) m := by rw [modD_int, decide_eq_true h]; rfl
theorem addS {x y : Str} {m : List C} (h : x.length + y.length ≤ 16777216) : addD (.str x) (.str y) m = .ok (.str (x ++ y)) m := by
  rw [addD_str, show fits (x.length + y.length) = true from decide_eq_true h]
  rfl
end DL


/-! DLr2: draws, loops and comprehensions as equations. -/
namespace DL
open PySem PySem.Spec L2
open PyProof.Rows hiding St pairD intD cutD
section
variable {n b : Nat} {m : List C} {G : FS}
theorem draw_gets {k : Int} (hG : Draws G) (h : Hand n b m) (hb : b < 1000000) (hk : 1 ≤ k) (hk2 : k < 4294967296) : ∃ j m', G [.cell n, .int k] m = .ok (.int j) m' ∧ 0 ≤ j ∧ j < k ∧ Hand n (b + 1) m' := by
  obtain ⟨x, m', e, j, c', rfl, h1, h2, h3, rfl⟩ := wR_ex (hG h (by omega) hk hk2 (fun x m' => ∃ j c', x = .int j ∧ 0 ≤ j ∧ j < k ∧ HandC (b + 1) c' ∧ m' = m.set n c') fun j c' h1 h2 h3 => ⟨j, c', rfl, h1, h2, h3, rfl⟩)
  exact ⟨j, _, e, h1, h2, Hand.set h.lt h3⟩
theorem some_gets {l : List D} (hG : Somes G) (h : Hand n b m) (hb : b < 1000000) (hl : l ≠ []) (hl2 : l.length ≤ 100000) : ∃ x m', G [.cell n, .lst l] m = .ok x m' ∧ x ∈ l ∧ Hand n (b + 1) m' := by
  obtain ⟨x, m', e, c', h1, h3, rfl⟩ := wR_ex (hG h (by omega) hl hl2 (fun x m' => ∃ c', x ∈ l ∧ HandC (b + 1) c' ∧ m' = m.set n c') fun x c' h1 h3 => ⟨c', h1, h3, rfl⟩)
  exact ⟨x, _, e, h1, Hand.set h.lt h3⟩
end
section
variable {ρ : Env} {m m1 m2 : List C} {F : ES} {L : LS} {a d : D} {l : List D} {A : BS}
theorem ev_nil : aNil ρ m = .ok [] m := rfl
theorem ev_cons (ha : F ρ m = .ok a m1) (hl : L ρ m1 = .ok l m2) : aCons F L ρ m = .ok (a :: l) m2 := by
  unfold aCons
  simp only [ha, hl, R.bind_ok]
theorem ev_lst (h : L ρ m = .ok l m1) (hf : l.length ≤ 100000) : eLst L ρ m = .ok (.lst l) m1 := by
  unfold eLst
  rw [h, R.bind_ok, if_pos (fits_small hf)]
theorem ev_tup (h : L ρ m = .ok l m1) (hf : l.length ≤ 100000) : eTup L ρ m = .ok (.tup l) m1 := by
  unfold eTup
  rw [h, R.bind_ok, if_pos (fits_small hf)]
theorem ev_lstC (h : L ρ m = .ok l m1) (hf : l.length ≤ 100000) : eLstC L ρ m = .ok (.cell m1.length) (m1 ++ [.lst l]) := by
  unfold eLstC
  rw [h, R.bind_ok, if_pos (fits_small hf)]
theorem ev_calln {n : Nat} {G : FS} (h : L ρ m = .ok l m1) (hl : l.length = n) (hg : G l m1 = .ok d m2) : eCall n G L ρ m = .ok d m2 := by
  unfold eCall
  rw [h, R.bind_ok, if_pos hl]
  exact hg
/-- a loop by an invariant of what is left -/
theorem loop_inv {g : GS} {B : SS} (I : List D → Env → List C → Prop)
    (hB : ∀ d ds ρ m, I (d :: ds) ρ m → ∃ ρ1 ρ2 m2, g d ρ m = some ρ1 ∧ B ρ1 m = .nx ρ2 m2 ∧ I ds ρ2 m2) : ∀ {l : List D} {ρ : Env} {m : List C}, I l ρ m → ∃ ρ' m', loopD g B l ρ m = .nx ρ' m' ∧ I [] ρ' m'
  | [], ρ, m, h => ⟨ρ, m, rfl, h⟩
  | d :: ds, ρ, m, h => by
    obtain ⟨ρ1, ρ2, m2, h1, h2, h3⟩ := hB d ds ρ m h
    obtain ⟨ρ', m', e, hi⟩ := loop_inv I hB h3
    exact ⟨ρ', m', loop_cons h1 h2 e, hi⟩
theorem lc_inv {g : GS} {vs : List Nat} (J : List D → List D → List C → Prop) (hL : L ρ m = .ok l m1) (h0 : J [] l m1)
    (hB : ∀ ys d ds m, J ys (d :: ds) m → ∃ ρ1 y m2, g d (wipeD ρ vs) m = some ρ1 ∧ F ρ1 m = .ok y m2 ∧ J (ys ++ [y]) ds m2) (hlen : ∀ ys m, J ys [] m → ys.length ≤ 100000) : ∃ ys m', eLc L g vs bYes F ρ m = .ok (.lst ys) m' ∧ J ys [] m' := by
  have := wR_comp (g := g) (vs := vs) (A := bYes) (F := F) (ρ := ρ) (Q := fun ys m' => J ys [] m') J (fun ys m h => h) (fun ys d ds m h => by
    obtain ⟨ρ1, y, m2, h1, h2, h3⟩ := hB ys d ds m h
    refine ⟨ρ1, h1, ?_⟩
    rw [show bYes ρ1 m = .ok true m from rfl, wR_ok, if_pos rfl, h2, wR_ok]
    exact h3) (l := l) (ys := []) (m := m1) h0
  obtain ⟨zs, m', e, h⟩ := wR_ex this
  refine ⟨zs, m', ?_, h⟩
  unfold eLc
  rw [hL, R.bind_ok, e, R.bind_ok]
  unfold compEnd
  rw [if_pos (fits_small (hlen zs m' h))]
theorem ev_range1 {k : Int} {G : LS} (h : G ρ m = .ok [.int k] m1) (h0 : -1000000 ≤ k) (h1 : k < 1000000) : iRng1 G ρ m = .ok (rangeD 0 k.toNat) m1 := by
  unfold iRng1
  rw [h]
  show (if small62 k then R.ok (rangeD 0 k.toNat) m1 else .no) = _
  rw [if_pos]
  unfold small62
  rw [Bool.and_eq_true]
  exact ⟨decide_eq_true (by omega), decide_eq_true (by omega)⟩
theorem len_range {lo : Int} {k : Nat} : (rangeD lo k).length = k := by simp [rangeD]
theorem sv_par {i j : Nat} {G : LS} {x y : D} (h : G ρ m = .ok [x, y] m1) : sPar i j G ρ m = .nx ((ρ.set i (some x)).set j (some y)) m1 := by
  unfold sPar
  rw [h]
  rfl
theorem sv_par3 {i j k : Nat} {G : LS} {x y z : D} (h : G ρ m = .ok [x, y, z] m1) : sPar3 i j k G ρ m = .nx (((ρ.set i (some x)).set j (some y)).set k (some z)) m1 := by
  unfold sPar3
  rw [h]
  rfl
theorem sv_asg {g : GS} {ρ1 : Env} (h : F ρ m = .ok d m1) (hg : g d ρ m1 = some ρ1) : sAsg F g ρ m = .nx ρ1 m1 := by
  unfold sAsg
  rw [h]
  show RS.opt (g d ρ m1) _ = _
  rw [hg]
  rfl
theorem ix_at {l : List D} {i : Int} {x : D} (h0 : 0 ≤ i) (h : l[i.toNat]? = some x) : ixD (.lst l) (.int i) m = .ok x m := by rw [ixD_lst, atI_nat h0 h]
theorem ix_atT {l : List D} {i : Int} {x : D} (h0 : 0 ≤ i) (h : l[i.toNat]? = some x) : ixD (.tup l) (.int i) m = .ok x m := by rw [ixD_tup, atI_nat h0 h]
/-- an item at a drawn place -/
theorem ix_lt {l : List D} {i : Int} (h0 : 0 ≤ i) (h : i < l.length) : ∃ x, x ∈ l ∧ ixD (.lst l) (.int i) m = .ok x m := by
  have hl : i.toNat < l.length := by omega
  exact ⟨_, List.getElem_mem hl, ix_at h0 (List.getElem?_eq_getElem hl)⟩
theorem ev_dic0 : eFrz eDicC ρ m = .ok (.dic [] []) (m ++ [.dead]) := by
  unfold eFrz eDicC
  rw [R.bind_ok]
  unfold frzR
  simp
theorem ev_frzL (h : F ρ m = .ok (.cell m.length) (m ++ [.lst l])) : eFrz F ρ m = .ok (.lst l) (m ++ [.dead]) := by
  unfold eFrz
  rw [h, R.bind_ok]
  unfold frzR
  simp
theorem mem_repS {x : Str} {c : Nat} {k : Nat} (h : c ∈ (repS x k).cps.toList) : c ∈ x.cps.toList := by
  have key : ∀ (k : Nat) (acc : Array Nat), c ∈ ((List.replicate k x.cps).foldl (· ++ ·) acc).toList → c ∈ acc.toList ∨ c ∈ x.cps.toList := by
    intro k
    induction k with
    | zero => intro acc h; exact .inl h
    | succ k ih =>
      intro acc h
      rw [List.replicate_succ, List.foldl_cons] at h
      rcases ih _ h with h | h
      · rw [Array.toList_append] at h
        exact List.mem_append.mp h
      · exact .inr h
  rcases key k #[] h with h | h
  · simp at h
  · exact h
theorem rep_eq {x : Str} {k : Int} (h0 : 0 ≤ k) (h1 : k ≤ 100000) (h2 : x.length ≤ 100) : mulAD (.str x) (.int k) m = .ok (.str (repS x k.toNat)) m := by
  show (if 0 ≤ k ∧ k ≤ 100000 ∧ x.length ≤ 100 then R.ok (D.str (repS x k.toNat)) m else .no) = _
  rw [if_pos ⟨h0, h1, h2⟩]
theorem ev_pc {Fk Fv : ES} {S : PS} {k v : D} {kk : Key} {q : List Key × List D} {m3 : List C} (hk : Fk ρ m = .ok k m1) (hv : Fv ρ m1 = .ok v m2) (hs : S ρ m2 = .ok q m3) (hkk : keyOf k = some kk) : pCons Fk Fv S ρ m = .ok (kk :: q.1, v :: q.2) m3 := by
  unfold pCons
  simp only [hk, hv, hs, R.bind_ok, hkk]
theorem ev_disp {S : PS} {q r : List Key × List D} (h : S ρ m = .ok q m1) (hl : q.1.length ≤ 15) (hm : mergeD [] [] q.1 q.2 = r) : eDisp S ρ m = .ok (.dic r.1 r.2) m1 := by
  unfold eDisp
  rw [h, R.bind_ok, if_pos hl, hm]
theorem isED_ref {K : PySem.W.Frag} {a c k : Addr} {b : Bool} (h : ExcC K c) (e : PySem.W.kitOne K (.ref c) (.ref k) = some b) : isED K a c [.ref a, .ref k] m = .ok (.bl b) m := by
  unfold isED
  simp only [clsV]
  rw [if_pos ⟨rfl, h⟩, e]
theorem isED_ty {K : PySem.W.Frag} {a c : Addr} {n : String} {b : Bool} (h : ExcC K c) (e : PySem.W.kitOne K (.ref c) (.type n) = some b) : isED K a c [.ref a, .ty n] m = .ok (.bl b) m := by
  unfold isED
  simp only [clsV]
  rw [if_pos ⟨rfl, h⟩, e]
theorem ev_act {L0 : D} {th : Th} (h : ρ[0]? = some (some L0)) : eAct L0 th ρ m = th m := by
  unfold eAct
  rw [if_pos h]
/-- a try whose suite runs through -/
theorem sv_tryR {B : SS} {i : Nat} {ok : Addr → Option Bool} {S : Addr → Addr → SS} (h : B ρ m = .rt d m1) : sTryAs B i ok S ρ m = .rt d m1 := by
  unfold sTryAs
  rw [h]
theorem sv_tryN {B : SS} {i : Nat} {ok : Addr → Option Bool} {S : Addr → Addr → SS} {ρ1 : Env} (h : B ρ m = .nx ρ1 m1) : sTryAs B i ok S ρ m = .nx ρ1 m1 := by
  unfold sTryAs
  rw [h]
/-- a try whose suite raises, caught -/
theorem sv_tryX {B : SS} {i : Nat} {ok : Addr → Option Bool} {S : Addr → Addr → SS} {ρ1 : Env} {c : Addr} {vs : List D} {r : RS} (h : B ρ m = .ex c [] vs ρ1 m1) (hok : ok c = some true) (hS : ∀ a, (S a c (ρ1.set i (some (.ref a))) m1).unset i = r) : sTryAs B i ok S ρ m = r := by
  unfold sTryAs
  rw [h]
  simp only [hok]
  exact agree_of hS
theorem lam_ok {G : Th → Th} {F : ES} (h : G (F ρ) m = .ok d m1) : eLam G F ρ m = .ok d m1 := by
  unfold eLam
  rw [h]
theorem mem_cutD {l : List D} {lo hi : Option Int} {x : D} (h : x ∈ cutD l lo hi) : x ∈ l := List.mem_of_mem_drop (List.mem_of_mem_take h)
theorem len_cutD {l : List D} {lo hi : Option Int} : (cutD l lo hi).length ≤ l.length := by
  unfold cutD
  rw [List.length_take, List.length_drop]
  omega
end
end DL


namespace K27
open PySem PySem.Spec L2 DL
open PyProof.Rows hiding St pairD intD cutD
def topS (i : Nat) : Stmt := PySem.Challenge.pw_shownviews_k27_whole_mixing_texts_number.main.body.getD i (.Pass ⟨0, 0, 0, 0⟩)
abbrev st_is_integer : Stmt := topS 9
theorem sc_is_integer : FnScope ["thing"] ["thing"] (defScope st_is_integer) := ⟨rfl, rfl, rfl, by decide +kernel, rfl, by decide +kernel, by decide +kernel⟩
abbrev st_is_within : Stmt := topS 10
theorem sc_is_within : FnScope ["thing", "least", "most"] ["thing", "least", "most"] (defScope st_is_within) := ⟨rfl, rfl, rfl, by decide +kernel, rfl, by decide +kernel, by decide +kernel⟩
abbrev st_is_sized : Stmt := topS 11
theorem sc_is_sized : FnScope ["thing", "least", "most"] ["thing", "least", "most"] (defScope st_is_sized) := ⟨rfl, rfl, rfl, by decide +kernel, rfl, by decide +kernel, by decide +kernel⟩
abbrev st_is_word : Stmt := topS 12
theorem sc_is_word : FnScope ["thing", "sign"] ["thing"] (defScope st_is_word) := ⟨rfl, rfl, rfl, by decide +kernel, rfl, by decide +kernel, by decide +kernel⟩
abbrev st_is_cell : Stmt := topS 13
theorem sc_is_cell : FnScope ["thing"] ["thing"] (defScope st_is_cell) := ⟨rfl, rfl, rfl, by decide +kernel, rfl, by decide +kernel, by decide +kernel⟩
abbrev st_is_row_of_cells : Stmt := topS 14
theorem sc_is_row_of_cells : FnScope ["thing", "item"] ["thing"] (defScope st_is_row_of_cells) := ⟨rfl, rfl, rfl, by decide +kernel, rfl, by decide +kernel, by decide +kernel⟩
abbrev st_is_name : Stmt := topS 15
theorem sc_is_name : FnScope ["thing", "sign"] ["thing"] (defScope st_is_name) := ⟨rfl, rfl, rfl, by decide +kernel, rfl, by decide +kernel, by decide +kernel⟩
abbrev st_check_prime : Stmt := topS 20
theorem sc_check_prime : FnScope ["p"] ["p"] (defScope st_check_prime) := ⟨rfl, rfl, rfl, by decide +kernel, rfl, by decide +kernel, by decide +kernel⟩
abbrev st_raw_mix : Stmt := topS 21
theorem sc_raw_mix : FnScope ["p", "text", "found", "sign", "number"] ["p", "text"] (defScope st_raw_mix) := ⟨rfl, rfl, rfl, by decide +kernel, rfl, by decide +kernel, by decide +kernel⟩
abbrev st_mix : Stmt := topS 22
theorem sc_mix : FnScope ["p", "text"] ["p", "text"] (defScope st_mix) := ⟨rfl, rfl, rfl, by decide +kernel, rfl, by decide +kernel, by decide +kernel⟩
abbrev st_is_text : Stmt := topS 23
theorem sc_is_text : FnScope ["thing", "sign"] ["thing"] (defScope st_is_text) := ⟨rfl, rfl, rfl, by decide +kernel, rfl, by decide +kernel, by decide +kernel⟩
abbrev st_is_fact : Stmt := topS 24
theorem sc_is_fact : FnScope ["thing"] ["thing"] (defScope st_is_fact) := ⟨rfl, rfl, rfl, by decide +kernel, rfl, by decide +kernel, by decide +kernel⟩
abbrev st_worth_text : Stmt := topS 25
theorem sc_worth_text : FnScope ["worth", "sign"] ["worth"] (defScope st_worth_text) := ⟨rfl, rfl, rfl, by decide +kernel, rfl, by decide +kernel, by decide +kernel⟩
abbrev st_raw_fact_text : Stmt := topS 26
theorem sc_raw_fact_text : FnScope ["fact", "worth"] ["fact"] (defScope st_raw_fact_text) := ⟨rfl, rfl, rfl, by decide +kernel, rfl, by decide +kernel, by decide +kernel⟩
abbrev st_check_fact : Stmt := topS 27
theorem sc_check_fact : FnScope ["fact"] ["fact"] (defScope st_check_fact) := ⟨rfl, rfl, rfl, by decide +kernel, rfl, by decide +kernel, by decide +kernel⟩
abbrev st_fact_text : Stmt := topS 28
theorem sc_fact_text : FnScope ["fact"] ["fact"] (defScope st_fact_text) := ⟨rfl, rfl, rfl, by decide +kernel, rfl, by decide +kernel, by decide +kernel⟩
abbrev st_raw_number_of : Stmt := topS 29
theorem sc_raw_number_of : FnScope ["p", "fact"] ["p", "fact"] (defScope st_raw_number_of) := ⟨rfl, rfl, rfl, by decide +kernel, rfl, by decide +kernel, by decide +kernel⟩
abbrev st_number_of : Stmt := topS 30
theorem sc_number_of : FnScope ["p", "fact"] ["p", "fact"] (defScope st_number_of) := ⟨rfl, rfl, rfl, by decide +kernel, rfl, by decide +kernel, by decide +kernel⟩
abbrev st_l_hand : Stmt := topS 32
theorem sc_l_hand : FnScope ["script", "cells", "cell"] ["script"] (defScope st_l_hand) := ⟨rfl, rfl, rfl, by decide +kernel, rfl, by decide +kernel, by decide +kernel⟩
abbrev st_l_draw : Stmt := topS 33
theorem sc_l_draw : FnScope ["hand", "many", "cell", "figure", "number"] ["hand", "many"] (defScope st_l_draw) := ⟨rfl, rfl, rfl, by decide +kernel, rfl, by decide +kernel, by decide +kernel⟩
abbrev st_l_some : Stmt := topS 34
theorem sc_l_some : FnScope ["hand", "things"] ["hand", "things"] (defScope st_l_some) := ⟨rfl, rfl, rfl, by decide +kernel, rfl, by decide +kernel, by decide +kernel⟩
abbrev st_l_mix : Stmt := topS 35
theorem sc_l_mix : FnScope ["p", "text", "found", "sign", "number"] ["p", "text"] (defScope st_l_mix) := ⟨rfl, rfl, rfl, by decide +kernel, rfl, by decide +kernel, by decide +kernel⟩
abbrev st_l_worth_text : Stmt := topS 36
theorem sc_l_worth_text : FnScope ["worth"] ["worth"] (defScope st_l_worth_text) := ⟨rfl, rfl, rfl, by decide +kernel, rfl, by decide +kernel, by decide +kernel⟩
abbrev st_l_fact_text : Stmt := topS 37
theorem sc_l_fact_text : FnScope ["fact", "worth"] ["fact"] (defScope st_l_fact_text) := ⟨rfl, rfl, rfl, by decide +kernel, rfl, by decide +kernel, by decide +kernel⟩
abbrev st_l_number : Stmt := topS 38
theorem sc_l_number : FnScope ["p", "fact"] ["p", "fact"] (defScope st_l_number) := ⟨rfl, rfl, rfl, by decide +kernel, rfl, by decide +kernel, by decide +kernel⟩
abbrev st_l_deep : Stmt := topS 39
theorem sc_l_deep : FnScope ["hand", "found", "turn"] ["hand"] (defScope st_l_deep) := ⟨rfl, rfl, rfl, by decide +kernel, rfl, by decide +kernel, by decide +kernel⟩
abbrev st_l_odd : Stmt := topS 40
theorem sc_l_odd : FnScope ["hand"] ["hand"] (defScope st_l_odd) := ⟨rfl, rfl, rfl, by decide +kernel, rfl, by decide +kernel, by decide +kernel⟩
abbrev st_l_odd_prime : Stmt := topS 41
theorem sc_l_odd_prime : FnScope ["hand", "top", "things"] ["hand"] (defScope st_l_odd_prime) := ⟨rfl, rfl, rfl, by decide +kernel, rfl, by decide +kernel, by decide +kernel⟩
abbrev st_l_is_prime : Stmt := topS 42
theorem sc_l_is_prime : FnScope ["thing"] ["thing"] (defScope st_l_is_prime) := ⟨rfl, rfl, rfl, by decide +kernel, rfl, by decide +kernel, by decide +kernel⟩
abbrev st_l_is_text : Stmt := topS 43
theorem sc_l_is_text : FnScope ["thing", "sign"] ["thing"] (defScope st_l_is_text) := ⟨rfl, rfl, rfl, by decide +kernel, rfl, by decide +kernel, by decide +kernel⟩
abbrev st_l_is_worth : Stmt := topS 44
theorem sc_l_is_worth : FnScope ["thing", "sign"] ["thing"] (defScope st_l_is_worth) := ⟨rfl, rfl, rfl, by decide +kernel, rfl, by decide +kernel, by decide +kernel⟩
abbrev st_l_is_name : Stmt := topS 45
theorem sc_l_is_name : FnScope ["thing", "sign"] ["thing"] (defScope st_l_is_name) := ⟨rfl, rfl, rfl, by decide +kernel, rfl, by decide +kernel, by decide +kernel⟩
abbrev st_l_is_fact : Stmt := topS 46
theorem sc_l_is_fact : FnScope ["thing", "worth"] ["thing"] (defScope st_l_is_fact) := ⟨rfl, rfl, rfl, by decide +kernel, rfl, by decide +kernel, by decide +kernel⟩
abbrev st_l_bent_fact : Stmt := topS 47
theorem sc_l_bent_fact : FnScope ["hand", "fact", "name", "row", "at", "thing", "things"] ["hand", "fact"] (defScope st_l_bent_fact) := ⟨rfl, rfl, rfl, by decide +kernel, rfl, by decide +kernel, by decide +kernel⟩
abbrev st_l_prime : Stmt := topS 48
theorem sc_l_prime : FnScope ["hand"] ["hand"] (defScope st_l_prime) := ⟨rfl, rfl, rfl, by decide +kernel, rfl, by decide +kernel, by decide +kernel⟩
abbrev st_l_worth : Stmt := topS 49
theorem sc_l_worth : FnScope ["hand", "words"] ["hand"] (defScope st_l_worth) := ⟨rfl, rfl, rfl, by decide +kernel, rfl, by decide +kernel, by decide +kernel⟩
abbrev st_l_fact : Stmt := topS 50
theorem sc_l_fact : FnScope ["hand", "texts", "name", "many", "place"] ["hand"] (defScope st_l_fact) := ⟨rfl, rfl, rfl, by decide +kernel, rfl, by decide +kernel, by decide +kernel⟩
abbrev st_l_is : Stmt := topS 51
theorem sc_l_is : FnScope ["told", "due", "one", "two"] ["told", "due"] (defScope st_l_is) := ⟨rfl, rfl, rfl, by decide +kernel, rfl, by decide +kernel, by decide +kernel⟩
abbrev st_l_text : Stmt := topS 52
theorem sc_l_text : FnScope ["hand", "signs", "many", "turn"] ["hand"] (defScope st_l_text) := ⟨rfl, rfl, rfl, by decide +kernel, rfl, by decide +kernel, by decide +kernel⟩
abbrev st_l_word : Stmt := topS 53
theorem sc_l_word : FnScope ["call", "error", "some"] ["call"] (defScope st_l_word) := ⟨rfl, rfl, rfl, by decide +kernel, rfl, by decide +kernel, by decide +kernel⟩
abbrev st_l_is_due : Stmt := topS 54
theorem sc_l_is_due : FnScope ["told", "due"] ["told", "due"] (defScope st_l_is_due) := ⟨rfl, rfl, rfl, by decide +kernel, rfl, by decide +kernel, by decide +kernel⟩
abbrev st_l_refused_right : Stmt := topS 55
theorem sc_l_refused_right : FnScope ["hand", "p", "fact", "text", "first", "last"] ["hand"] (defScope st_l_refused_right) := ⟨rfl, rfl, rfl, by decide +kernel, rfl, by decide +kernel, by decide +kernel⟩
abbrev st_law : Stmt := topS 56
theorem sc_law : FnScope ["script", "hand", "turn", "p", "text", "fact"] ["script"] (defScope st_law) := ⟨rfl, rfl, rfl, by decide +kernel, rfl, by decide +kernel, by decide +kernel⟩
/-- what the top has left -/
structure Txt (K : PySem.W.Frag) (mg : Str → Option Value) (cl : Str → Addr) (cd : Nat → Addr) where
  is_integer : DefAt K mg "is_integer" st_is_integer ["thing"]
  is_within : DefAt K mg "is_within" st_is_within ["thing", "least", "most"]
  is_sized : DefAt K mg "is_sized" st_is_sized ["thing", "least", "most"]
  is_word : DefAt K mg "is_word" st_is_word ["thing"]
  is_cell : DefAt K mg "is_cell" st_is_cell ["thing"]
  is_row_of_cells : DefAt K mg "is_row_of_cells" st_is_row_of_cells ["thing"]
  is_name : DefAt K mg "is_name" st_is_name ["thing"]
  check_prime : DefAt K mg "check_prime" st_check_prime ["p"]
  raw_mix : DefAt K mg "raw_mix" st_raw_mix ["p", "text"]
  mix : DefAt K mg "mix" st_mix ["p", "text"]
  is_text : DefAt K mg "is_text" st_is_text ["thing"]
  is_fact : DefAt K mg "is_fact" st_is_fact ["thing"]
  worth_text : DefAt K mg "worth_text" st_worth_text ["worth"]
  raw_fact_text : DefAt K mg "raw_fact_text" st_raw_fact_text ["fact"]
  check_fact : DefAt K mg "check_fact" st_check_fact ["fact"]
  fact_text : DefAt K mg "fact_text" st_fact_text ["fact"]
  raw_number_of : DefAt K mg "raw_number_of" st_raw_number_of ["p", "fact"]
  number_of : DefAt K mg "number_of" st_number_of ["p", "fact"]
  l_hand : DefAt K mg "_law_hand" st_l_hand ["script"]
  l_draw : DefAt K mg "_law_draw" st_l_draw ["hand", "many"]
  l_some : DefAt K mg "_law_some" st_l_some ["hand", "things"]
  l_mix : DefAt K mg "_law_mix" st_l_mix ["p", "text"]
  l_worth_text : DefAt K mg "_law_worth_text" st_l_worth_text ["worth"]
  l_fact_text : DefAt K mg "_law_fact_text" st_l_fact_text ["fact"]
  l_number : DefAt K mg "_law_number" st_l_number ["p", "fact"]
  l_deep : DefAt K mg "_law_deep" st_l_deep ["hand"]
  l_odd : DefAt K mg "_law_odd" st_l_odd ["hand"]
  l_odd_prime : DefAt K mg "_law_odd_prime" st_l_odd_prime ["hand"]
  l_is_prime : DefAt K mg "_law_is_prime" st_l_is_prime ["thing"]
  l_is_text : DefAt K mg "_law_is_text" st_l_is_text ["thing"]
  l_is_worth : DefAt K mg "_law_is_worth" st_l_is_worth ["thing"]
  l_is_name : DefAt K mg "_law_is_name" st_l_is_name ["thing"]
  l_is_fact : DefAt K mg "_law_is_fact" st_l_is_fact ["thing"]
  l_bent_fact : DefAt K mg "_law_bent_fact" st_l_bent_fact ["hand", "fact"]
  l_prime : DefAt K mg "_law_prime" st_l_prime ["hand"]
  l_worth : DefAt K mg "_law_worth" st_l_worth ["hand"]
  l_fact : DefAt K mg "_law_fact" st_l_fact ["hand"]
  l_is : DefAt K mg "_law_is" st_l_is ["told", "due"]
  l_text : DefAt K mg "_law_text" st_l_text ["hand"]
  l_word : DefAt K mg "_law_word" st_l_word ["call"]
  l_is_due : DefAt K mg "_law_is_due" st_l_is_due ["told", "due"]
  l_refused_right : DefT K mg "_law_refused_right" st_l_refused_right ["hand"] (cd 0)
  law : DefAt K mg "law" st_law ["script"]
  c_LEAST_PRIME : ∃ t, mg "LEAST_PRIME" = some (.int 1000 t)
  c_MOST_LETTERS : ∃ t, mg "MOST_LETTERS" = some (.int 8 t)
  c_MOST_PLACES : ∃ t, mg "MOST_PLACES" = some (.int 5 t)
  c_MOST_PRIME : ∃ t, mg "MOST_PRIME" = some (.int 170141183460469231731687303715884105728 t)
  c_MOST_SIGNS : ∃ t, mg "MOST_SIGNS" = some (.int 20 t)
  c_RULE : ∃ t, mg "RULE" = some (.str "rule" t)
  k_NoFact : ClsAt mg "NoFact" (cl "NoFact")
  k_NoPrime : ClsAt mg "NoPrime" (cl "NoPrime")
  k_NoText : ClsAt mg "NoText" (cl "NoText")
  k_ViewError : ClsAt mg "ViewError" (cl "ViewError")
  r_NoFact : ErrAt K mg "NoFact" (cl "NoFact")
  r_NoPrime : ErrAt K mg "NoPrime" (cl "NoPrime")
  r_NoText : ErrAt K mg "NoText" (cl "NoText")
  z_abs : mg "abs" = none
  z_all : mg "all" = none
  z_bool : mg "bool" = none
  z_int : mg "int" = none
  z_isinstance : mg "isinstance" = none
  z_len : mg "len" = none
  z_list : mg "list" = none
  z_ord : mg "ord" = none
  z_range : mg "range" = none
  z_str : mg "str" = none
  z_tuple : mg "tuple" = none
  z_zip : mg "zip" = none
/-- the tables of those that make lambdas -/
structure Mks (base : Heap) (mg : Str → Option Value) (cd pt : Nat → Addr) (T : List (Addr × Str)) : Prop where
  m0 : LamX.TabB base mg (cd 0) (pt 0) ∧ (pt 0, (envOfC "_law_refused_right" (defScope st_l_refused_right) 0 0 .none).qual ++ "<lambda>") ∈ T ∧ ∀ p ∈ T, p.1 = pt 0 → p.2 = (envOfC "_law_refused_right" (defScope st_l_refused_right) 0 0 .none).qual ++ "<lambda>"
section
variable {P : Program} {w : World} {K : PySem.W.Frag} {mg : Str → Option Value} {cl : Str → Addr} {cd : Nat → Addr} {base : Heap} {T : List (Addr × Str)}
def B_is_integer  : SS :=
    (sRet (eAnd (eAr isiD (aCons (eVar 0) (aCons (eC (.ty "int")) aNil))) (eNot (eAr isiD (aCons (eVar 0) (aCons (eC (.ty "bool")) aNil))))))
theorem body_is_integer (t : Txt K mg cl cd) : FnOk P w K mg base (L2.CX P w) (0 + 1) t.is_integer.f t.is_integer.fd ["thing"] (spD K T 1 (fnD 1 (B_is_integer))) :=
  fn_D t.is_integer.F sc_is_integer fun cdv A outer s H E hr tk =>
    (dss_one (ds_ret (de_and (de_callB call_isiA isiD_ok (da_cons (de_var (pv 0)) (da_cons (de_ty "int" t.z_int) da_nil)) t.z_isinstance) (de_one (de_not (de_callB call_isiA isiD_ok (da_cons (de_var (pv 0)) (da_cons (de_ty "bool" t.z_bool) da_nil)) t.z_isinstance))))))
def B_is_within (G_is_integer : FS) : SS :=
    (sRet (eAnd (eCall 1 G_is_integer (aCons (eVar 0) aNil)) (eChain (cmpD fun i j => decide (i ≤ j)) (cmpD fun i j => decide (i ≤ j)) (eVar 1) (eVar 0) (eVar 2))))
theorem body_is_within (t : Txt K mg cl cd) {G_is_integer : FS} (h_is_integer : FnOk P w K mg base (L2.CX P w) 1 t.is_integer.f t.is_integer.fd ["thing"] (spD K T 1 G_is_integer)) : FnOk P w K mg base (L2.CX P w) (1 + 1) t.is_within.f t.is_within.fd ["thing", "least", "most"] (spD K T 3 (fnD 3 (B_is_within G_is_integer))) :=
  fn_D t.is_within.F sc_is_within fun cdv A outer s H E hr tk =>
    (dss_one (ds_ret (de_and (de_call tk h_is_integer (hr.mono (by omega)) t.is_integer.m t.is_integer.F.kp t.is_integer.b (da_cons (de_var (pv 0)) da_nil)) (de_one (de_chain op_le op_le cmpD_ok cmpD_ok (de_var (pv 1)) (de_var (pv 0)) (de_var (pv 2)))))))
def B_is_sized  : SS :=
    (sRet (eAnd (eAr isiD (aCons (eVar 0) (aCons (eC (.ty "tuple")) aNil))) (eChain (cmpD fun i j => decide (i ≤ j)) (cmpD fun i j => decide (i ≤ j)) (eVar 1) (eAr lenD (aCons (eVar 0) aNil)) (eVar 2))))
theorem body_is_sized (t : Txt K mg cl cd) : FnOk P w K mg base (L2.CX P w) (0 + 1) t.is_sized.f t.is_sized.fd ["thing", "least", "most"] (spD K T 3 (fnD 3 (B_is_sized))) :=
  fn_D t.is_sized.F sc_is_sized fun cdv A outer s H E hr tk =>
    (dss_one (ds_ret (de_and (de_callB call_isiA isiD_ok (da_cons (de_var (pv 0)) (da_cons (de_ty "tuple" t.z_tuple) da_nil)) t.z_isinstance) (de_one (de_chain op_le op_le cmpD_ok cmpD_ok (de_var (pv 1)) (de_callB call_lenA lenD_ok (da_cons (de_var (pv 0)) da_nil) t.z_len) (de_var (pv 2)))))))
def B_is_word  : SS :=
    (sRet (eAnd (eAr isiD (aCons (eVar 0) (aCons (eC (.ty "str")) aNil))) (eAnd (eBin (cmpD fun i j => decide (i ≤ j)) (eAr lenD (aCons (eVar 0) aNil)) (eC (.int 20))) (eAr allD (aCons (eLc (iSeq (eVar 0)) (gN 1) [1] bYes (eChain (cmpSD sLe) (cmpSD sLe) (eC (.str " ")) (eVar 1) (eC (.str "~")))) aNil)))))
theorem body_is_word (t : Txt K mg cl cd) : FnOk P w K mg base (L2.CX P w) (0 + 1) t.is_word.f t.is_word.fd ["thing"] (spD K T 1 (fnD 2 (B_is_word))) :=
  fn_D t.is_word.F sc_is_word fun cdv A outer s H E hr tk =>
    (dss_one (ds_ret (de_and (de_callB call_isiA isiD_ok (da_cons (de_var (pv 0)) (da_cons (de_ty "str" t.z_str) da_nil)) t.z_isinstance) (de_and (de_cmp op_le cmpD_ok (de_callB call_lenA lenD_ok (da_cons (de_var (pv 0)) da_nil) t.z_len) (de_cint 20 t.c_MOST_SIGNS)) (de_one (de_callB (cr_all rfl) allD_ok (da_cons (de_lc (own := [("sign", 1)]) rfl sc_is_word.nd (di_seq (de_var (pv 0))) (blkOk_by (by kernel_rfl)) (fun _ _ _ _ _ => (dg_name (i := 1) sc_is_word.nd rfl (by first | exact Or.inl rfl | exact Or.inr rfl))) (fun _ _ _ _ _ => dts_nil) (fun _ _ _ _ _ => (de_chain op_le_str op_le_str cmpSD_ok cmpSD_ok de_str (de_var (pv 1)) de_str))) da_nil) t.z_all))))))
def B_is_cell (G_is_integer : FS) (G_is_word : FS) : SS :=
    (sRet (eOr (eCall 1 G_is_integer (aCons (eVar 0) aNil)) (eCall 1 G_is_word (aCons (eVar 0) aNil))))
theorem body_is_cell (t : Txt K mg cl cd) {G_is_integer : FS} (h_is_integer : FnOk P w K mg base (L2.CX P w) 1 t.is_integer.f t.is_integer.fd ["thing"] (spD K T 1 G_is_integer)) {G_is_word : FS} (h_is_word : FnOk P w K mg base (L2.CX P w) 1 t.is_word.f t.is_word.fd ["thing"] (spD K T 1 G_is_word)) : FnOk P w K mg base (L2.CX P w) (1 + 1) t.is_cell.f t.is_cell.fd ["thing"] (spD K T 1 (fnD 1 (B_is_cell G_is_integer G_is_word))) :=
  fn_D t.is_cell.F sc_is_cell fun cdv A outer s H E hr tk =>
    (dss_one (ds_ret (de_or (de_call tk h_is_integer (hr.mono (by omega)) t.is_integer.m t.is_integer.F.kp t.is_integer.b (da_cons (de_var (pv 0)) da_nil)) (de_one (de_call tk h_is_word (hr.mono (by omega)) t.is_word.m t.is_word.F.kp t.is_word.b (da_cons (de_var (pv 0)) da_nil))))))
def B_is_row_of_cells (G_is_sized : FS) (G_is_cell : FS) : SS :=
    (sRet (eAnd (eCall 3 G_is_sized (aCons (eVar 0) (aCons (eC (.int 1)) (aCons (eC (.int 5)) aNil)))) (eAr allD (aCons (eLc (iSeq (eVar 0)) (gN 1) [1] bYes (eCall 1 G_is_cell (aCons (eVar 1) aNil))) aNil))))
theorem body_is_row_of_cells (t : Txt K mg cl cd) {G_is_sized : FS} (h_is_sized : FnOk P w K mg base (L2.CX P w) 1 t.is_sized.f t.is_sized.fd ["thing", "least", "most"] (spD K T 3 G_is_sized)) {G_is_cell : FS} (h_is_cell : FnOk P w K mg base (L2.CX P w) 2 t.is_cell.f t.is_cell.fd ["thing"] (spD K T 1 G_is_cell)) : FnOk P w K mg base (L2.CX P w) (2 + 1) t.is_row_of_cells.f t.is_row_of_cells.fd ["thing"] (spD K T 1 (fnD 2 (B_is_row_of_cells G_is_sized G_is_cell))) :=
  fn_D t.is_row_of_cells.F sc_is_row_of_cells fun cdv A outer s H E hr tk =>
    (dss_one (ds_ret (de_and (de_call tk h_is_sized (hr.mono (by omega)) t.is_sized.m t.is_sized.F.kp t.is_sized.b (da_cons (de_var (pv 0)) (da_cons de_int (da_cons (de_cint 5 t.c_MOST_PLACES) da_nil)))) (de_one (de_callB (cr_all rfl) allD_ok (da_cons (de_lc (own := [("item", 1)]) rfl sc_is_row_of_cells.nd (di_seq (de_var (pv 0))) (blkOk_by (by kernel_rfl)) (fun _ _ _ _ _ => (dg_name (i := 1) sc_is_row_of_cells.nd rfl (by first | exact Or.inl rfl | exact Or.inr rfl))) (fun _ _ _ _ _ => dts_nil) (fun _ _ _ _ _ => (de_call takes0 h_is_cell (hr.mono (by omega)) t.is_cell.m t.is_cell.F.kp t.is_cell.b (da_cons (de_var (pv 1)) da_nil)))) da_nil) t.z_all)))))
def B_is_name  : SS :=
    (sSeq (sIf (bOr (bNot (bTru (eAr isiD (aCons (eVar 0) (aCons (eC (.ty "str")) aNil))))) (bNot (bTest (eChain (cmpD fun i j => decide (i ≤ j)) (cmpD fun i j => decide (i ≤ j)) (eC (.int 1)) (eAr lenD (aCons (eVar 0) aNil)) (eC (.int 8)))))) (sRet (eC (.bl false))) sSkip)
    (sRet (eAr allD (aCons (eLc (iSeq (eVar 0)) (gN 1) [1] bYes (eChain (cmpSD sLe) (cmpSD sLe) (eC (.str "a")) (eVar 1) (eC (.str "z")))) aNil))))
theorem body_is_name (t : Txt K mg cl cd) : FnOk P w K mg base (L2.CX P w) (0 + 1) t.is_name.f t.is_name.fd ["thing"] (spD K T 1 (fnD 2 (B_is_name))) :=
  fn_D t.is_name.F sc_is_name fun cdv A outer s H E hr tk =>
    (dss_cons (ds_if (DW.dt (dw_or (dt_not (dt_tru (de_callB call_isiA isiD_ok (da_cons (de_var (pv 0)) (da_cons (de_ty "str" t.z_str) da_nil)) t.z_isinstance))) (dw_or1 (dt_not (dt_chain op_le op_le cmpD_ok cmpD_ok de_int (de_callB call_lenA lenD_ok (da_cons (de_var (pv 0)) da_nil) t.z_len) (de_cint 8 t.c_MOST_LETTERS)))))) (dss_one (ds_ret de_bl)) dss_nil)
    (dss_one (ds_ret (de_callB (cr_all rfl) allD_ok (da_cons (de_lc (own := [("sign", 1)]) rfl sc_is_name.nd (di_seq (de_var (pv 0))) (blkOk_by (by kernel_rfl)) (fun _ _ _ _ _ => (dg_name (i := 1) sc_is_name.nd rfl (by first | exact Or.inl rfl | exact Or.inr rfl))) (fun _ _ _ _ _ => dts_nil) (fun _ _ _ _ _ => (de_chain op_le_str op_le_str cmpSD_ok cmpSD_ok de_str (de_var (pv 1)) de_str))) da_nil) t.z_all))))
def B_check_prime (cl : Str → Addr) (G_is_within : FS) : SS :=
    (sIf (bNot (bTru (eCall 3 G_is_within (aCons (eVar 0) (aCons (eC (.int 1000)) (aCons (eC (.int 170141183460469231731687303715884105728)) aNil)))))) (sRaise0 (cl "NoPrime")) sSkip)
theorem body_check_prime (t : Txt K mg cl cd) {G_is_within : FS} (h_is_within : FnOk P w K mg base (L2.CX P w) 2 t.is_within.f t.is_within.fd ["thing", "least", "most"] (spD K T 3 G_is_within)) : FnOk P w K mg base (L2.CX P w) (2 + 1) t.check_prime.f t.check_prime.fd ["p"] (spD K T 1 (fnD 1 (B_check_prime cl G_is_within))) :=
  fn_D t.check_prime.F sc_check_prime fun cdv A outer s H E hr tk =>
    (dss_one (ds_if (dt_not (dt_tru (de_call tk h_is_within (hr.mono (by omega)) t.is_within.m t.is_within.F.kp t.is_within.b (da_cons (de_var (pv 0)) (da_cons (de_cint 1000 t.c_LEAST_PRIME) (da_cons (de_cint 170141183460469231731687303715884105728 t.c_MOST_PRIME) da_nil)))))) (dss_one (ds_raise0 rfl tk t.r_NoPrime)) dss_nil))
def B_raw_mix  : SS :=
    (sSeq (sSet 2 (eC (.int 1)))
    (sSeq (sFor (iSeq (eVar 1)) (gN 3) (sSeq (sSet 4 (eIf (bTest (eBin eqD (eVar 3) (eC (.str "\n")))) (eC (.int 0)) (eBin subD (eAr ordD (aCons (eVar 3) aNil)) (eC (.int 31)))))
    (sSet 2 (eBin modD (eBin addD (eBin addD (eBin addD (eBin mulD (eVar 2) (eVar 2)) (eBin mulD (eBin mulD (eC (.int 3)) (eVar 2)) (eVar 4))) (eVar 4)) (eC (.int 5))) (eVar 0)))))
    (sRet (eVar 2))))
theorem body_raw_mix (t : Txt K mg cl cd) : FnOk P w K mg base (L2.CX P w) (0 + 1) t.raw_mix.f t.raw_mix.fd ["p", "text"] (spD K T 2 (fnD 5 (B_raw_mix))) :=
  fn_D t.raw_mix.F sc_raw_mix fun cdv A outer s H E hr tk =>
    (dss_cons (ds_set (i := 2) sc_raw_mix.nd rfl (by first | exact Or.inl rfl | exact Or.inr rfl) de_int)
    (dss_cons (ds_for (passes_of rfl) rfl (di_seq (de_var (pv 1))) (dg_name (i := 3) sc_raw_mix.nd rfl (by first | exact Or.inl rfl | exact Or.inr rfl)) (dss_cons (ds_set (i := 4) sc_raw_mix.nd rfl (by first | exact Or.inl rfl | exact Or.inr rfl) (de_if (dt_cmp (op_eqD hr.units) eqD_ok (de_var (pv 3)) de_str) de_int (de_bin op_sub subD_ok (de_callB call_ord ordD_ok (da_cons (de_var (pv 3)) da_nil) t.z_ord) de_int)))
    (dss_one (ds_set (i := 2) sc_raw_mix.nd rfl (by first | exact Or.inl rfl | exact Or.inr rfl) (de_bin op_mod modD_ok (de_bin op_addA addD_ok (de_bin op_addA addD_ok (de_bin op_addA addD_ok (de_bin op_mulW mulD_ok (de_var (pv 2)) (de_var (pv 2))) (de_bin op_mulW mulD_ok (de_bin op_mulW mulD_ok de_int (de_var (pv 2))) (de_var (pv 4)))) (de_var (pv 4))) de_int) (de_var (pv 0)))))))
    (dss_one (ds_ret (de_var (pv 2))))))
def B_mix (cl : Str → Addr) (G_check_prime : FS) (G_is_text : FS) (G_raw_mix : FS) : SS :=
    (sSeq (sExpr (eCall 1 G_check_prime (aCons (eVar 0) aNil)))
    (sSeq (sIf (bNot (bTru (eCall 1 G_is_text (aCons (eVar 1) aNil)))) (sRaise0 (cl "NoText")) sSkip)
    (sRet (eCall 2 G_raw_mix (aCons (eVar 0) (aCons (eVar 1) aNil))))))
theorem body_mix (t : Txt K mg cl cd) {G_check_prime : FS} (h_check_prime : FnOk P w K mg base (L2.CX P w) 3 t.check_prime.f t.check_prime.fd ["p"] (spD K T 1 G_check_prime)) {G_is_text : FS} (h_is_text : FnOk P w K mg base (L2.CX P w) 1 t.is_text.f t.is_text.fd ["thing"] (spD K T 1 G_is_text)) {G_raw_mix : FS} (h_raw_mix : FnOk P w K mg base (L2.CX P w) 1 t.raw_mix.f t.raw_mix.fd ["p", "text"] (spD K T 2 G_raw_mix)) : FnOk P w K mg base (L2.CX P w) (3 + 1) t.mix.f t.mix.fd ["p", "text"] (spD K T 2 (fnD 2 (B_mix cl G_check_prime G_is_text G_raw_mix))) :=
  fn_D t.mix.F sc_mix fun cdv A outer s H E hr tk =>
    (dss_cons (ds_expr (de_call tk h_check_prime (hr.mono (by omega)) t.check_prime.m t.check_prime.F.kp t.check_prime.b (da_cons (de_var (pv 0)) da_nil)))
    (dss_cons (ds_if (dt_not (dt_tru (de_call tk h_is_text (hr.mono (by omega)) t.is_text.m t.is_text.F.kp t.is_text.b (da_cons (de_var (pv 1)) da_nil)))) (dss_one (ds_raise0 rfl tk t.r_NoText)) dss_nil)
    (dss_one (ds_ret (de_call tk h_raw_mix (hr.mono (by omega)) t.raw_mix.m t.raw_mix.F.kp t.raw_mix.b (da_cons (de_var (pv 0)) (da_cons (de_var (pv 1)) da_nil)))))))
def B_is_text  : SS :=
    (sRet (eAnd (eAr isiD (aCons (eVar 0) (aCons (eC (.ty "str")) aNil))) (eAr allD (aCons (eLc (iSeq (eVar 0)) (gN 1) [1] bYes (eOr (eChain (cmpSD sLe) (cmpSD sLe) (eC (.str " ")) (eVar 1) (eC (.str "~"))) (eBin eqD (eVar 1) (eC (.str "\n"))))) aNil))))
theorem body_is_text (t : Txt K mg cl cd) : FnOk P w K mg base (L2.CX P w) (0 + 1) t.is_text.f t.is_text.fd ["thing"] (spD K T 1 (fnD 2 (B_is_text))) :=
  fn_D t.is_text.F sc_is_text fun cdv A outer s H E hr tk =>
    (dss_one (ds_ret (de_and (de_callB call_isiA isiD_ok (da_cons (de_var (pv 0)) (da_cons (de_ty "str" t.z_str) da_nil)) t.z_isinstance) (de_one (de_callB (cr_all rfl) allD_ok (da_cons (de_lc (own := [("sign", 1)]) rfl sc_is_text.nd (di_seq (de_var (pv 0))) (blkOk_by (by kernel_rfl)) (fun _ _ _ _ _ => (dg_name (i := 1) sc_is_text.nd rfl (by first | exact Or.inl rfl | exact Or.inr rfl))) (fun _ _ _ _ _ => dts_nil) (fun _ _ _ _ _ => (de_or (de_chain op_le_str op_le_str cmpSD_ok cmpSD_ok de_str (de_var (pv 1)) de_str) (de_one (de_cmp (op_eqD hr.units) eqD_ok (de_var (pv 1)) de_str))))) da_nil) t.z_all)))))
def B_is_fact (G_is_sized : FS) (G_is_name : FS) (G_is_text : FS) (G_is_row_of_cells : FS) : SS :=
    (sSeq (sIf (bOr (bNot (bTru (eCall 3 G_is_sized (aCons (eVar 0) (aCons (eC (.int 2)) (aCons (eC (.int 2)) aNil)))))) (bNot (bTru (eCall 1 G_is_name (aCons (eBin ixD (eVar 0) (eC (.int 0))) aNil))))) (sRet (eC (.bl false))) sSkip)
    (sSeq (sIf (bTest (eBin eqD (eBin ixD (eVar 0) (eC (.int 0))) (eC (.str "rule")))) (sRet (eAnd (eCall 3 G_is_sized (aCons (eBin ixD (eVar 0) (eC (.int 1))) (aCons (eC (.int 2)) (aCons (eC (.int 2)) aNil)))) (eAnd (eCall 1 G_is_name (aCons (eBin ixD (eBin ixD (eVar 0) (eC (.int 1))) (eC (.int 0))) aNil)) (eCall 1 G_is_text (aCons (eBin ixD (eBin ixD (eVar 0) (eC (.int 1))) (eC (.int 1))) aNil))))) sSkip)
    (sRet (eCall 1 G_is_row_of_cells (aCons (eBin ixD (eVar 0) (eC (.int 1))) aNil)))))
theorem body_is_fact (t : Txt K mg cl cd) {G_is_sized : FS} (h_is_sized : FnOk P w K mg base (L2.CX P w) 1 t.is_sized.f t.is_sized.fd ["thing", "least", "most"] (spD K T 3 G_is_sized)) {G_is_name : FS} (h_is_name : FnOk P w K mg base (L2.CX P w) 1 t.is_name.f t.is_name.fd ["thing"] (spD K T 1 G_is_name)) {G_is_text : FS} (h_is_text : FnOk P w K mg base (L2.CX P w) 1 t.is_text.f t.is_text.fd ["thing"] (spD K T 1 G_is_text)) {G_is_row_of_cells : FS} (h_is_row_of_cells : FnOk P w K mg base (L2.CX P w) 3 t.is_row_of_cells.f t.is_row_of_cells.fd ["thing"] (spD K T 1 G_is_row_of_cells)) : FnOk P w K mg base (L2.CX P w) (3 + 1) t.is_fact.f t.is_fact.fd ["thing"] (spD K T 1 (fnD 1 (B_is_fact G_is_sized G_is_name G_is_text G_is_row_of_cells))) :=
  fn_D t.is_fact.F sc_is_fact fun cdv A outer s H E hr tk =>
    (dss_cons (ds_if (DW.dt (dw_or (dt_not (dt_tru (de_call tk h_is_sized (hr.mono (by omega)) t.is_sized.m t.is_sized.F.kp t.is_sized.b (da_cons (de_var (pv 0)) (da_cons de_int (da_cons de_int da_nil)))))) (dw_or1 (dt_not (dt_tru (de_call tk h_is_name (hr.mono (by omega)) t.is_name.m t.is_name.F.kp t.is_name.b (da_cons (de_ix (ix_A (hu_of hr)) ixD_ok (de_var (pv 0)) de_int) da_nil))))))) (dss_one (ds_ret de_bl)) dss_nil)
    (dss_cons (ds_if (dt_cmp (op_eqD hr.units) eqD_ok (de_ix (ix_A (hu_of hr)) ixD_ok (de_var (pv 0)) de_int) (de_cstr "rule" t.c_RULE)) (dss_one (ds_ret (de_and (de_call tk h_is_sized (hr.mono (by omega)) t.is_sized.m t.is_sized.F.kp t.is_sized.b (da_cons (de_ix (ix_A (hu_of hr)) ixD_ok (de_var (pv 0)) de_int) (da_cons de_int (da_cons de_int da_nil)))) (de_and (de_call tk h_is_name (hr.mono (by omega)) t.is_name.m t.is_name.F.kp t.is_name.b (da_cons (de_ix (ix_A (hu_of hr)) ixD_ok (de_ix (ix_A (hu_of hr)) ixD_ok (de_var (pv 0)) de_int) de_int) da_nil)) (de_one (de_call tk h_is_text (hr.mono (by omega)) t.is_text.m t.is_text.F.kp t.is_text.b (da_cons (de_ix (ix_A (hu_of hr)) ixD_ok (de_ix (ix_A (hu_of hr)) ixD_ok (de_var (pv 0)) de_int) de_int) da_nil))))))) dss_nil)
    (dss_one (ds_ret (de_call tk h_is_row_of_cells (hr.mono (by omega)) t.is_row_of_cells.m t.is_row_of_cells.F.kp t.is_row_of_cells.b (da_cons (de_ix (ix_A (hu_of hr)) ixD_ok (de_var (pv 0)) de_int) da_nil))))))
def B_worth_text (G_is_integer : FS) : SS :=
    (sSeq (sIf (bTru (eCall 1 G_is_integer (aCons (eVar 0) aNil))) (sRet (eAr strD (aCons (eVar 0) aNil))) sSkip)
    (sRet (eBin addD (eBin addD (eC (.str "'")) (eMt "str" joinD (eC (.str "")) (aCons (eLc (iSeq (eVar 0)) (gN 1) [1] bYes (eIf (bTest (eBin inD (eVar 1) (eC (.str "'~")))) (eBin addD (eC (.str "~")) (eVar 1)) (eVar 1))) aNil))) (eC (.str "'")))))
theorem body_worth_text (t : Txt K mg cl cd) {G_is_integer : FS} (h_is_integer : FnOk P w K mg base (L2.CX P w) 1 t.is_integer.f t.is_integer.fd ["thing"] (spD K T 1 G_is_integer)) : FnOk P w K mg base (L2.CX P w) (1 + 1) t.worth_text.f t.worth_text.fd ["worth"] (spD K T 1 (fnD 2 (B_worth_text G_is_integer))) :=
  fn_D t.worth_text.F sc_worth_text fun cdv A outer s H E hr tk =>
    (dss_cons (ds_if (dt_tru (de_call tk h_is_integer (hr.mono (by omega)) t.is_integer.m t.is_integer.F.kp t.is_integer.b (da_cons (de_var (pv 0)) da_nil))) (dss_one (ds_ret (de_callTy call_str_int strD_ok (da_cons (de_var (pv 0)) da_nil) t.z_str))) dss_nil)
    (dss_one (ds_ret (de_bin op_addA addD_ok (de_bin op_addA addD_ok de_str (de_mt PySem.F.plainAttrs_str PySem.F.slot_str_join PySem.F.type_str_join mt_join joinD_ok de_str (da_cons (de_lc (own := [("sign", 1)]) rfl sc_worth_text.nd (di_seq (de_var (pv 0))) (blkOk_by (by kernel_rfl)) (fun _ _ _ _ _ => (dg_name (i := 1) sc_worth_text.nd rfl (by first | exact Or.inl rfl | exact Or.inr rfl))) (fun _ _ _ _ _ => dts_nil) (fun _ _ _ _ _ => (de_if (dt_cmp (op_inA hr.units1 (hu_of hr)) inD_ok (de_var (pv 1)) de_str) (de_bin op_addA addD_ok de_str (de_var (pv 1))) (de_var (pv 1))))) da_nil))) de_str))))
def B_raw_fact_text (G_worth_text : FS) : SS :=
    (sRet (eBin addD (eBin addD (eBin addD (eBin ixD (eVar 0) (eC (.int 0))) (eC (.str "("))) (eMt "str" joinD (eC (.str ",")) (aCons (eLc (iSeq (eBin ixD (eVar 0) (eC (.int 1)))) (gN 1) [1] bYes (eCall 1 G_worth_text (aCons (eVar 1) aNil))) aNil))) (eC (.str ")"))))
theorem body_raw_fact_text (t : Txt K mg cl cd) {G_worth_text : FS} (h_worth_text : FnOk P w K mg base (L2.CX P w) 2 t.worth_text.f t.worth_text.fd ["worth"] (spD K T 1 G_worth_text)) : FnOk P w K mg base (L2.CX P w) (2 + 1) t.raw_fact_text.f t.raw_fact_text.fd ["fact"] (spD K T 1 (fnD 2 (B_raw_fact_text G_worth_text))) :=
  fn_D t.raw_fact_text.F sc_raw_fact_text fun cdv A outer s H E hr tk =>
    (dss_one (ds_ret (de_bin op_addA addD_ok (de_bin op_addA addD_ok (de_bin op_addA addD_ok (de_ix (ix_A (hu_of hr)) ixD_ok (de_var (pv 0)) de_int) de_str) (de_mt PySem.F.plainAttrs_str PySem.F.slot_str_join PySem.F.type_str_join mt_join joinD_ok de_str (da_cons (de_lc (own := [("worth", 1)]) rfl sc_raw_fact_text.nd (di_seq (de_ix (ix_A (hu_of hr)) ixD_ok (de_var (pv 0)) de_int)) (blkOk_by (by kernel_rfl)) (fun _ _ _ _ _ => (dg_name (i := 1) sc_raw_fact_text.nd rfl (by first | exact Or.inl rfl | exact Or.inr rfl))) (fun _ _ _ _ _ => dts_nil) (fun _ _ _ _ _ => (de_call takes0 h_worth_text (hr.mono (by omega)) t.worth_text.m t.worth_text.F.kp t.worth_text.b (da_cons (de_var (pv 1)) da_nil)))) da_nil))) de_str)))
def B_check_fact (cl : Str → Addr) (G_is_fact : FS) : SS :=
    (sIf (bNot (bTru (eCall 1 G_is_fact (aCons (eVar 0) aNil)))) (sRaise0 (cl "NoFact")) sSkip)
theorem body_check_fact (t : Txt K mg cl cd) {G_is_fact : FS} (h_is_fact : FnOk P w K mg base (L2.CX P w) 4 t.is_fact.f t.is_fact.fd ["thing"] (spD K T 1 G_is_fact)) : FnOk P w K mg base (L2.CX P w) (4 + 1) t.check_fact.f t.check_fact.fd ["fact"] (spD K T 1 (fnD 1 (B_check_fact cl G_is_fact))) :=
  fn_D t.check_fact.F sc_check_fact fun cdv A outer s H E hr tk =>
    (dss_one (ds_if (dt_not (dt_tru (de_call tk h_is_fact (hr.mono (by omega)) t.is_fact.m t.is_fact.F.kp t.is_fact.b (da_cons (de_var (pv 0)) da_nil)))) (dss_one (ds_raise0 rfl tk t.r_NoFact)) dss_nil))
def B_fact_text (G_check_fact : FS) (G_raw_fact_text : FS) : SS :=
    (sSeq (sExpr (eCall 1 G_check_fact (aCons (eVar 0) aNil)))
    (sRet (eCall 1 G_raw_fact_text (aCons (eVar 0) aNil))))
theorem body_fact_text (t : Txt K mg cl cd) {G_check_fact : FS} (h_check_fact : FnOk P w K mg base (L2.CX P w) 5 t.check_fact.f t.check_fact.fd ["fact"] (spD K T 1 G_check_fact)) {G_raw_fact_text : FS} (h_raw_fact_text : FnOk P w K mg base (L2.CX P w) 3 t.raw_fact_text.f t.raw_fact_text.fd ["fact"] (spD K T 1 G_raw_fact_text)) : FnOk P w K mg base (L2.CX P w) (5 + 1) t.fact_text.f t.fact_text.fd ["fact"] (spD K T 1 (fnD 1 (B_fact_text G_check_fact G_raw_fact_text))) :=
  fn_D t.fact_text.F sc_fact_text fun cdv A outer s H E hr tk =>
    (dss_cons (ds_expr (de_call tk h_check_fact (hr.mono (by omega)) t.check_fact.m t.check_fact.F.kp t.check_fact.b (da_cons (de_var (pv 0)) da_nil)))
    (dss_one (ds_ret (de_call tk h_raw_fact_text (hr.mono (by omega)) t.raw_fact_text.m t.raw_fact_text.F.kp t.raw_fact_text.b (da_cons (de_var (pv 0)) da_nil)))))
def B_raw_number_of (G_raw_mix : FS) (G_raw_fact_text : FS) : SS :=
    (sRet (eCall 2 G_raw_mix (aCons (eVar 0) (aCons (eCall 1 G_raw_fact_text (aCons (eVar 1) aNil)) aNil))))
theorem body_raw_number_of (t : Txt K mg cl cd) {G_raw_mix : FS} (h_raw_mix : FnOk P w K mg base (L2.CX P w) 1 t.raw_mix.f t.raw_mix.fd ["p", "text"] (spD K T 2 G_raw_mix)) {G_raw_fact_text : FS} (h_raw_fact_text : FnOk P w K mg base (L2.CX P w) 3 t.raw_fact_text.f t.raw_fact_text.fd ["fact"] (spD K T 1 G_raw_fact_text)) : FnOk P w K mg base (L2.CX P w) (3 + 1) t.raw_number_of.f t.raw_number_of.fd ["p", "fact"] (spD K T 2 (fnD 2 (B_raw_number_of G_raw_mix G_raw_fact_text))) :=
  fn_D t.raw_number_of.F sc_raw_number_of fun cdv A outer s H E hr tk =>
    (dss_one (ds_ret (de_call tk h_raw_mix (hr.mono (by omega)) t.raw_mix.m t.raw_mix.F.kp t.raw_mix.b (da_cons (de_var (pv 0)) (da_cons (de_call tk h_raw_fact_text (hr.mono (by omega)) t.raw_fact_text.m t.raw_fact_text.F.kp t.raw_fact_text.b (da_cons (de_var (pv 1)) da_nil)) da_nil)))))
def B_number_of (G_check_prime : FS) (G_check_fact : FS) (G_raw_number_of : FS) : SS :=
    (sSeq (sExpr (eCall 1 G_check_prime (aCons (eVar 0) aNil)))
    (sSeq (sExpr (eCall 1 G_check_fact (aCons (eVar 1) aNil)))
    (sRet (eCall 2 G_raw_number_of (aCons (eVar 0) (aCons (eVar 1) aNil))))))
theorem body_number_of (t : Txt K mg cl cd) {G_check_prime : FS} (h_check_prime : FnOk P w K mg base (L2.CX P w) 3 t.check_prime.f t.check_prime.fd ["p"] (spD K T 1 G_check_prime)) {G_check_fact : FS} (h_check_fact : FnOk P w K mg base (L2.CX P w) 5 t.check_fact.f t.check_fact.fd ["fact"] (spD K T 1 G_check_fact)) {G_raw_number_of : FS} (h_raw_number_of : FnOk P w K mg base (L2.CX P w) 4 t.raw_number_of.f t.raw_number_of.fd ["p", "fact"] (spD K T 2 G_raw_number_of)) : FnOk P w K mg base (L2.CX P w) (5 + 1) t.number_of.f t.number_of.fd ["p", "fact"] (spD K T 2 (fnD 2 (B_number_of G_check_prime G_check_fact G_raw_number_of))) :=
  fn_D t.number_of.F sc_number_of fun cdv A outer s H E hr tk =>
    (dss_cons (ds_expr (de_call tk h_check_prime (hr.mono (by omega)) t.check_prime.m t.check_prime.F.kp t.check_prime.b (da_cons (de_var (pv 0)) da_nil)))
    (dss_cons (ds_expr (de_call tk h_check_fact (hr.mono (by omega)) t.check_fact.m t.check_fact.F.kp t.check_fact.b (da_cons (de_var (pv 1)) da_nil)))
    (dss_one (ds_ret (de_call tk h_raw_number_of (hr.mono (by omega)) t.raw_number_of.m t.raw_number_of.F.kp t.raw_number_of.b (da_cons (de_var (pv 0)) (da_cons (de_var (pv 1)) da_nil)))))))
def B_l_hand  : SS :=
    (sSeq (sSet 1 (eLc (iSeq (eSl (eVar 0) pNone (pSome (eC (.int 63))))) (gN 2) [2] bYes (eAr absD (aCons (eAr intD (aCons (eVar 2) aNil)) aNil))))
    (sRet (eLstC (aCons (eVar 1) (aCons (eC (.int 0)) (aCons (eC (.int 0)) (aCons (eBin addD (eC (.int 97)) (eBin mulD (eC (.int 5)) (eAr lenD (aCons (eVar 1) aNil)))) (aCons (eC (.int 0)) aNil))))))))
theorem body_l_hand (t : Txt K mg cl cd) : FnOk P w K mg base (L2.CX P w) (0 + 1) t.l_hand.f t.l_hand.fd ["script"] (spD K T 1 (fnD 3 (B_l_hand))) :=
  fn_D t.l_hand.F sc_l_hand fun cdv A outer s H E hr tk =>
    (dss_cons (ds_setLc (i := 1) (own := [("cell", 2)]) rfl sc_l_hand.nd rfl rfl (sw_true rfl rfl rfl (by decide +kernel)) (di_seq (de_slice (de_var (pv 0)) dp_none (dp_some de_int))) (blkOk_by (by kernel_rfl)) (fun _ _ _ _ _ => (dg_name (i := 2) sc_l_hand.nd rfl (by first | exact Or.inl rfl | exact Or.inr rfl))) (fun _ _ _ _ _ => dts_nil) (fun _ _ _ _ _ => (de_callB call_abs absD_ok (da_cons (de_callTy call_int1 intD_ok (da_cons (de_var (pv 2)) da_nil) t.z_int) da_nil) t.z_abs)))
    (dss_one (ds_ret (de_lstC (da_cons (de_var (pv 1)) (da_cons de_int (da_cons de_int (da_cons (de_bin op_addA addD_ok de_int (de_bin op_mulW mulD_ok de_int (de_callB call_lenA lenD_ok (da_cons (de_var (pv 1)) da_nil) t.z_len))) (da_cons de_int da_nil)))))))))
def B_l_draw  : SS :=
    (sSeq (sIf (bAnd (bTest (eBin eqD (eBin ixD (eVar 0) (eC (.int 2))) (eC (.int 0)))) (bTest (eBin (cmpD fun i j => decide (i < j)) (eBin ixD (eVar 0) (eC (.int 1))) (eAr lenD (aCons (eBin ixD (eVar 0) (eC (.int 0))) aNil))))) (sSeq (sSet 2 (eBin ixD (eBin ixD (eVar 0) (eC (.int 0))) (eBin ixD (eVar 0) (eC (.int 1)))))
    (sSeq (sSub (eVar 0) (eC (.int 1)) (eBin addD (eBin ixD (eVar 0) (eC (.int 1))) (eC (.int 1))))
    (sSeq (sSub (eVar 0) (eC (.int 3)) (eBin modD (eAr intD (aCons (eBin addD (eBin addD (eBin mulD (eBin ixD (eVar 0) (eC (.int 3))) (eC (.int 48271))) (eVar 2)) (eC (.int 31))) aNil)) (eC (.int 2147483647))))
    (sIf (bTest (eBin (cmpD fun i j => decide (j ≤ i)) (eVar 2) (eBin powD (eC (.int 10)) (eC (.int 18))))) (sSub (eVar 0) (eC (.int 2)) (eVar 2)) sSkip)))) sSkip)
    (sSeq (sIf (bTest (eBin (cmpD fun i j => decide (j < i)) (eBin ixD (eVar 0) (eC (.int 2))) (eC (.int 0)))) (sSeq (sSet 3 (eBin modD (eAr intD (aCons (eBin ixD (eVar 0) (eC (.int 2))) aNil)) (eVar 1)))
    (sSeq (sSub (eVar 0) (eC (.int 2)) (eBin fdivD (eBin ixD (eVar 0) (eC (.int 2))) (eVar 1)))
    (sRet (eVar 3)))) sSkip)
    (sSeq (sSub (eVar 0) (eC (.int 4)) (eBin addD (eBin ixD (eVar 0) (eC (.int 4))) (eC (.int 1))))
    (sSeq (sSet 4 (eBin modD (eAr intD (aCons (eBin mulD (eAr intD (aCons (eBin addD (eBin ixD (eVar 0) (eC (.int 3))) (eBin mulD (eC (.int 6151)) (eBin ixD (eVar 0) (eC (.int 4))))) aNil)) (eC (.int 40692))) aNil)) (eC (.int 2147483399))))
    (sSeq (sSet 4 (eBin modD (eAr intD (aCons (eBin mulD (eVar 4) (eBin addD (eBin fdivD (eVar 4) (eC (.int 1223))) (eC (.int 52027)))) aNil)) (eC (.int 2147483629))))
    (sSeq (sSet 4 (eBin modD (eAr intD (aCons (eBin mulD (eVar 4) (eBin addD (eBin fdivD (eVar 4) (eC (.int 2671))) (eC (.int 69621)))) aNil)) (eC (.int 2147483647))))
    (sRet (eBin modD (eAr intD (aCons (eBin fdivD (eVar 4) (eC (.int 32))) aNil)) (eVar 1)))))))))
theorem body_l_draw (t : Txt K mg cl cd) : FnOk P w K mg base (L2.CX P w) (0 + 1) t.l_draw.f t.l_draw.fd ["hand", "many"] (spD K T 2 (fnD 5 (B_l_draw))) :=
  fn_D t.l_draw.F sc_l_draw fun cdv A outer s H E hr tk =>
    (dss_cons (ds_if (DW.dt (dw_and (dt_cmp (op_eqD hr.units) eqD_ok (de_ix (ix_A (hu_of hr)) ixD_ok (de_var (pv 0)) de_int) de_int) (dw_and1 (dt_cmp op_lt cmpD_ok (de_ix (ix_A (hu_of hr)) ixD_ok (de_var (pv 0)) de_int) (de_callB call_lenA lenD_ok (da_cons (de_ix (ix_A (hu_of hr)) ixD_ok (de_var (pv 0)) de_int) da_nil) t.z_len))))) (dss_cons (ds_set (i := 2) sc_l_draw.nd rfl (by first | exact Or.inl rfl | exact Or.inr rfl) (de_ix (ix_A (hu_of hr)) ixD_ok (de_ix (ix_A (hu_of hr)) ixD_ok (de_var (pv 0)) de_int) (de_ix (ix_A (hu_of hr)) ixD_ok (de_var (pv 0)) de_int)))
    (dss_cons (ds_subS (hu_of hr) (de_var (pv 0)) de_int (de_bin op_addA addD_ok (de_ix (ix_A (hu_of hr)) ixD_ok (de_var (pv 0)) de_int) de_int))
    (dss_cons (ds_subS (hu_of hr) (de_var (pv 0)) de_int (de_bin op_mod modD_ok (de_callTy call_int1 intD_ok (da_cons (de_bin op_addA addD_ok (de_bin op_addA addD_ok (de_bin op_mulW mulD_ok (de_ix (ix_A (hu_of hr)) ixD_ok (de_var (pv 0)) de_int) de_int) (de_var (pv 2))) de_int) da_nil) t.z_int) de_int))
    (dss_one (ds_if (dt_cmp op_ge cmpD_ok (de_var (pv 2)) (de_bin op_pow powD_ok de_int de_int)) (dss_one (ds_subS (hu_of hr) (de_var (pv 0)) de_int (de_var (pv 2)))) dss_nil))))) dss_nil)
    (dss_cons (ds_if (dt_cmp op_gt cmpD_ok (de_ix (ix_A (hu_of hr)) ixD_ok (de_var (pv 0)) de_int) de_int) (dss_cons (ds_set (i := 3) sc_l_draw.nd rfl (by first | exact Or.inl rfl | exact Or.inr rfl) (de_bin op_mod modD_ok (de_callTy call_int1 intD_ok (da_cons (de_ix (ix_A (hu_of hr)) ixD_ok (de_var (pv 0)) de_int) da_nil) t.z_int) (de_var (pv 1))))
    (dss_cons (ds_subS (hu_of hr) (de_var (pv 0)) de_int (de_bin op_fdivW fdivD_ok (de_ix (ix_A (hu_of hr)) ixD_ok (de_var (pv 0)) de_int) (de_var (pv 1))))
    (dss_one (ds_ret (de_var (pv 3)))))) dss_nil)
    (dss_cons (ds_subS (hu_of hr) (de_var (pv 0)) de_int (de_bin op_addA addD_ok (de_ix (ix_A (hu_of hr)) ixD_ok (de_var (pv 0)) de_int) de_int))
    (dss_cons (ds_set (i := 4) sc_l_draw.nd rfl (by first | exact Or.inl rfl | exact Or.inr rfl) (de_bin op_mod modD_ok (de_callTy call_int1 intD_ok (da_cons (de_bin op_mulW mulD_ok (de_callTy call_int1 intD_ok (da_cons (de_bin op_addA addD_ok (de_ix (ix_A (hu_of hr)) ixD_ok (de_var (pv 0)) de_int) (de_bin op_mulW mulD_ok de_int (de_ix (ix_A (hu_of hr)) ixD_ok (de_var (pv 0)) de_int))) da_nil) t.z_int) de_int) da_nil) t.z_int) de_int))
    (dss_cons (ds_set (i := 4) sc_l_draw.nd rfl (by first | exact Or.inl rfl | exact Or.inr rfl) (de_bin op_mod modD_ok (de_callTy call_int1 intD_ok (da_cons (de_bin op_mulW mulD_ok (de_var (pv 4)) (de_bin op_addA addD_ok (de_bin op_fdivW fdivD_ok (de_var (pv 4)) de_int) de_int)) da_nil) t.z_int) de_int))
    (dss_cons (ds_set (i := 4) sc_l_draw.nd rfl (by first | exact Or.inl rfl | exact Or.inr rfl) (de_bin op_mod modD_ok (de_callTy call_int1 intD_ok (da_cons (de_bin op_mulW mulD_ok (de_var (pv 4)) (de_bin op_addA addD_ok (de_bin op_fdivW fdivD_ok (de_var (pv 4)) de_int) de_int)) da_nil) t.z_int) de_int))
    (dss_one (ds_ret (de_bin op_mod modD_ok (de_callTy call_int1 intD_ok (da_cons (de_bin op_fdivW fdivD_ok (de_var (pv 4)) de_int) da_nil) t.z_int) (de_var (pv 1)))))))))))
def B_l_some (G_l_draw : FS) : SS :=
    (sRet (eBin ixD (eVar 1) (eCall 2 G_l_draw (aCons (eVar 0) (aCons (eAr lenD (aCons (eVar 1) aNil)) aNil)))))
theorem body_l_some (t : Txt K mg cl cd) {G_l_draw : FS} (h_l_draw : FnOk P w K mg base (L2.CX P w) 1 t.l_draw.f t.l_draw.fd ["hand", "many"] (spD K T 2 G_l_draw)) : FnOk P w K mg base (L2.CX P w) (1 + 1) t.l_some.f t.l_some.fd ["hand", "things"] (spD K T 2 (fnD 2 (B_l_some G_l_draw))) :=
  fn_D t.l_some.F sc_l_some fun cdv A outer s H E hr tk =>
    (dss_one (ds_ret (de_ix (ix_A (hu_of hr)) ixD_ok (de_var (pv 1)) (de_call tk h_l_draw (hr.mono (by omega)) t.l_draw.m t.l_draw.F.kp t.l_draw.b (da_cons (de_var (pv 0)) (da_cons (de_callB call_lenA lenD_ok (da_cons (de_var (pv 1)) da_nil) t.z_len) da_nil))))))
def B_l_mix  : SS :=
    (sSeq (sSet 2 (eC (.int 1)))
    (sSeq (sFor (iSeq (eVar 1)) (gN 3) (sSeq (sSet 4 (eIf (bTest (eBin eqD (eVar 3) (eC (.str "\n")))) (eC (.int 0)) (eBin subD (eAr ordD (aCons (eVar 3) aNil)) (eC (.int 31)))))
    (sSet 2 (eBin modD (eAr intD (aCons (eBin addD (eBin addD (eBin addD (eBin mulD (eVar 2) (eVar 2)) (eBin mulD (eBin mulD (eC (.int 3)) (eVar 2)) (eVar 4))) (eVar 4)) (eC (.int 5))) aNil)) (eVar 0)))))
    (sRet (eVar 2))))
theorem body_l_mix (t : Txt K mg cl cd) : FnOk P w K mg base (L2.CX P w) (0 + 1) t.l_mix.f t.l_mix.fd ["p", "text"] (spD K T 2 (fnD 5 (B_l_mix))) :=
  fn_D t.l_mix.F sc_l_mix fun cdv A outer s H E hr tk =>
    (dss_cons (ds_set (i := 2) sc_l_mix.nd rfl (by first | exact Or.inl rfl | exact Or.inr rfl) de_int)
    (dss_cons (ds_for (passes_of rfl) rfl (di_seq (de_var (pv 1))) (dg_name (i := 3) sc_l_mix.nd rfl (by first | exact Or.inl rfl | exact Or.inr rfl)) (dss_cons (ds_set (i := 4) sc_l_mix.nd rfl (by first | exact Or.inl rfl | exact Or.inr rfl) (de_if (dt_cmp (op_eqD hr.units) eqD_ok (de_var (pv 3)) de_str) de_int (de_bin op_sub subD_ok (de_callB call_ord ordD_ok (da_cons (de_var (pv 3)) da_nil) t.z_ord) de_int)))
    (dss_one (ds_set (i := 2) sc_l_mix.nd rfl (by first | exact Or.inl rfl | exact Or.inr rfl) (de_bin op_mod modD_ok (de_callTy call_int1 intD_ok (da_cons (de_bin op_addA addD_ok (de_bin op_addA addD_ok (de_bin op_addA addD_ok (de_bin op_mulW mulD_ok (de_var (pv 2)) (de_var (pv 2))) (de_bin op_mulW mulD_ok (de_bin op_mulW mulD_ok de_int (de_var (pv 2))) (de_var (pv 4)))) (de_var (pv 4))) de_int) da_nil) t.z_int) (de_var (pv 0)))))))
    (dss_one (ds_ret (de_var (pv 2))))))
def B_l_worth_text  : SS :=
    (sSeq (sIf (bTru (eAr isiD (aCons (eVar 0) (aCons (eC (.ty "str")) aNil)))) (sRet (eBin addD (eBin addD (eC (.str "'")) (eRepl "'" "~'" (eRepl "~" "~~" (eVar 0)))) (eC (.str "'")))) sSkip)
    (sRet (eAr strD (aCons (eVar 0) aNil))))
theorem body_l_worth_text (t : Txt K mg cl cd) : FnOk P w K mg base (L2.CX P w) (0 + 1) t.l_worth_text.f t.l_worth_text.fd ["worth"] (spD K T 1 (fnD 1 (B_l_worth_text))) :=
  fn_D t.l_worth_text.F sc_l_worth_text fun cdv A outer s H E hr tk =>
    (dss_cons (ds_if (dt_tru (de_callB call_isiA isiD_ok (da_cons (de_var (pv 0)) (da_cons (de_ty "str" t.z_str) da_nil)) t.z_isinstance)) (dss_one (ds_ret (de_bin op_addA addD_ok (de_binRT op_addA addD_ok (det_repl (det_repl (det_of (de_var (pv 0)))))) de_str))) dss_nil)
    (dss_one (ds_ret (de_callTy call_str_int strD_ok (da_cons (de_var (pv 0)) da_nil) t.z_str))))
def B_l_fact_text (G_l_worth_text : FS) : SS :=
    (sRet (eBin addD (eBin addD (eBin addD (eBin ixD (eVar 0) (eC (.int 0))) (eC (.str "("))) (eMt "str" joinD (eC (.str ",")) (aCons (eLc (iSeq (eBin ixD (eVar 0) (eC (.int 1)))) (gN 1) [1] bYes (eCall 1 G_l_worth_text (aCons (eVar 1) aNil))) aNil))) (eC (.str ")"))))
theorem body_l_fact_text (t : Txt K mg cl cd) {G_l_worth_text : FS} (h_l_worth_text : FnOk P w K mg base (L2.CX P w) 1 t.l_worth_text.f t.l_worth_text.fd ["worth"] (spD K T 1 G_l_worth_text)) : FnOk P w K mg base (L2.CX P w) (1 + 1) t.l_fact_text.f t.l_fact_text.fd ["fact"] (spD K T 1 (fnD 2 (B_l_fact_text G_l_worth_text))) :=
  fn_D t.l_fact_text.F sc_l_fact_text fun cdv A outer s H E hr tk =>
    (dss_one (ds_ret (de_bin op_addA addD_ok (de_bin op_addA addD_ok (de_bin op_addA addD_ok (de_ix (ix_A (hu_of hr)) ixD_ok (de_var (pv 0)) de_int) de_str) (de_mt PySem.F.plainAttrs_str PySem.F.slot_str_join PySem.F.type_str_join mt_join joinD_ok de_str (da_cons (de_lc (own := [("worth", 1)]) rfl sc_l_fact_text.nd (di_seq (de_ix (ix_A (hu_of hr)) ixD_ok (de_var (pv 0)) de_int)) (blkOk_by (by kernel_rfl)) (fun _ _ _ _ _ => (dg_name (i := 1) sc_l_fact_text.nd rfl (by first | exact Or.inl rfl | exact Or.inr rfl))) (fun _ _ _ _ _ => dts_nil) (fun _ _ _ _ _ => (de_call takes0 h_l_worth_text (hr.mono (by omega)) t.l_worth_text.m t.l_worth_text.F.kp t.l_worth_text.b (da_cons (de_var (pv 1)) da_nil)))) da_nil))) de_str)))
def B_l_number (G_l_mix : FS) (G_l_fact_text : FS) : SS :=
    (sRet (eCall 2 G_l_mix (aCons (eVar 0) (aCons (eCall 1 G_l_fact_text (aCons (eVar 1) aNil)) aNil))))
theorem body_l_number (t : Txt K mg cl cd) {G_l_mix : FS} (h_l_mix : FnOk P w K mg base (L2.CX P w) 1 t.l_mix.f t.l_mix.fd ["p", "text"] (spD K T 2 G_l_mix)) {G_l_fact_text : FS} (h_l_fact_text : FnOk P w K mg base (L2.CX P w) 2 t.l_fact_text.f t.l_fact_text.fd ["fact"] (spD K T 1 G_l_fact_text)) : FnOk P w K mg base (L2.CX P w) (2 + 1) t.l_number.f t.l_number.fd ["p", "fact"] (spD K T 2 (fnD 2 (B_l_number G_l_mix G_l_fact_text))) :=
  fn_D t.l_number.F sc_l_number fun cdv A outer s H E hr tk =>
    (dss_one (ds_ret (de_call tk h_l_mix (hr.mono (by omega)) t.l_mix.m t.l_mix.F.kp t.l_mix.b (da_cons (de_var (pv 0)) (da_cons (de_call tk h_l_fact_text (hr.mono (by omega)) t.l_fact_text.m t.l_fact_text.F.kp t.l_fact_text.b (da_cons (de_var (pv 1)) da_nil)) da_nil)))))
def B_l_deep (G_l_draw : FS) : SS :=
    (sSeq (sSet 1 (eBin ixD (eLst (aCons (eC .non) (aCons (eC (.str "a")) (aCons (eUn negD (eC (.int 1))) (aCons (eFrz eDicC) (aCons (eC (.bl true)) aNil)))))) (eCall 2 G_l_draw (aCons (eVar 0) (aCons (eC (.int 5)) aNil)))))
    (sSeq (sFor (iRng1 (aCons (eBin addD (eC (.int 1)) (eCall 2 G_l_draw (aCons (eVar 0) (aCons (eC (.int 28)) aNil)))) aNil)) (gN 2) (sSet 1 (eBin ixD (eLst (aCons (eTup (aCons (eVar 1) aNil)) (aCons (eLst (aCons (eVar 1) aNil)) (aCons (eDisp (pCons (eC (.int 0)) (eVar 1) pNil)) aNil)))) (eCall 2 G_l_draw (aCons (eVar 0) (aCons (eC (.int 3)) aNil))))))
    (sRet (eVar 1))))
theorem body_l_deep (t : Txt K mg cl cd) {G_l_draw : FS} (h_l_draw : FnOk P w K mg base (L2.CX P w) 1 t.l_draw.f t.l_draw.fd ["hand", "many"] (spD K T 2 G_l_draw)) : FnOk P w K mg base (L2.CX P w) (1 + 1) t.l_deep.f t.l_deep.fd ["hand"] (spD K T 1 (fnD 3 (B_l_deep G_l_draw))) :=
  fn_D t.l_deep.F sc_l_deep fun cdv A outer s H E hr tk =>
    (dss_cons (ds_set (i := 1) sc_l_deep.nd rfl (by first | exact Or.inl rfl | exact Or.inr rfl) (de_ix (ix_A (hu_of hr)) ixD_ok (de_lst (da_cons de_non (da_cons de_str (da_cons (de_un un_neg negD_ok de_int) (da_cons (de_frz de_dicC) (da_cons de_bl da_nil)))))) (de_call tk h_l_draw (hr.mono (by omega)) t.l_draw.m t.l_draw.F.kp t.l_draw.b (da_cons (de_var (pv 0)) (da_cons de_int da_nil)))))
    (dss_cons (ds_for (passes_of rfl) rfl (di_range1 t.z_range (da_cons (de_bin op_addA addD_ok de_int (de_call tk h_l_draw (hr.mono (by omega)) t.l_draw.m t.l_draw.F.kp t.l_draw.b (da_cons (de_var (pv 0)) (da_cons de_int da_nil)))) da_nil)) (dg_name (i := 2) sc_l_deep.nd rfl (by first | exact Or.inl rfl | exact Or.inr rfl)) (dss_one (ds_set (i := 1) sc_l_deep.nd rfl (by first | exact Or.inl rfl | exact Or.inr rfl) (de_ix (ix_A (hu_of hr)) ixD_ok (de_lst (da_cons (de_tup (da_cons (de_var (pv 1)) da_nil)) (da_cons (de_lst (da_cons (de_var (pv 1)) da_nil)) (da_cons (de_disp (dps_cons de_int (de_var (pv 1)) dps_nil)) da_nil)))) (de_call tk h_l_draw (hr.mono (by omega)) t.l_draw.m t.l_draw.F.kp t.l_draw.b (da_cons (de_var (pv 0)) (da_cons de_int da_nil)))))))
    (dss_one (ds_ret (de_var (pv 1))))))
def B_l_odd (G_l_some : FS) (G_l_deep : FS) : SS :=
    (sRet (eCall 2 G_l_some (aCons (eVar 0) (aCons (eLst (aCons (eC .non) (aCons (eC (.bl true)) (aCons (eC (.bl false)) (aCons (eC (.int 0)) (aCons (eUn negD (eC (.int 1))) (aCons (eC (.int 999)) (aCons (eBin shlD (eC (.int 1)) (eC (.int 63))) (aCons (eC (.str "p")) (aCons (eC (.str "")) (aCons (eTup aNil) (aCons (eLst aNil) (aCons (eFrz eDicC) (aCons (eTup (aCons (eC (.int 1)) aNil)) (aCons (eTup (aCons (eC (.str "a")) aNil)) (aCons (eCall 1 G_l_deep (aCons (eVar 0) aNil)) aNil)))))))))))))))) aNil))))
theorem body_l_odd (t : Txt K mg cl cd) {G_l_some : FS} (h_l_some : FnOk P w K mg base (L2.CX P w) 2 t.l_some.f t.l_some.fd ["hand", "things"] (spD K T 2 G_l_some)) {G_l_deep : FS} (h_l_deep : FnOk P w K mg base (L2.CX P w) 2 t.l_deep.f t.l_deep.fd ["hand"] (spD K T 1 G_l_deep)) : FnOk P w K mg base (L2.CX P w) (2 + 1) t.l_odd.f t.l_odd.fd ["hand"] (spD K T 1 (fnD 1 (B_l_odd G_l_some G_l_deep))) :=
  fn_D t.l_odd.F sc_l_odd fun cdv A outer s H E hr tk =>
    (dss_one (ds_ret (de_call tk h_l_some (hr.mono (by omega)) t.l_some.m t.l_some.F.kp t.l_some.b (da_cons (de_var (pv 0)) (da_cons (de_lst (da_cons de_non (da_cons de_bl (da_cons de_bl (da_cons de_int (da_cons (de_un un_neg negD_ok de_int) (da_cons de_int (da_cons (de_bin op_shl shlD_ok de_int de_int) (da_cons de_str (da_cons de_str (da_cons (de_tup da_nil) (da_cons (de_lst da_nil) (da_cons (de_frz de_dicC) (da_cons (de_tup (da_cons de_int da_nil)) (da_cons (de_tup (da_cons de_str da_nil)) (da_cons (de_call tk h_l_deep (hr.mono (by omega)) t.l_deep.m t.l_deep.F.kp t.l_deep.b (da_cons (de_var (pv 0)) da_nil)) da_nil)))))))))))))))) da_nil)))))
def B_l_odd_prime (G_l_some : FS) : SS :=
    (sSeq (sSet 1 (eC (.int 170141183460469231731687303715884105728)))
    (sSeq (sSet 2 (eLst (aCons (eC (.int 999)) (aCons (eC (.int 1000)) (aCons (eBin subD (eVar 1) (eC (.int 1))) (aCons (eVar 1) (aCons (eBin addD (eVar 1) (eC (.int 1))) (aCons (eC (.bl true)) (aCons (eC .non) (aCons (eC (.str "1009")) (aCons (eBin subD (eC (.int 0)) (eC (.int 1009))) (aCons (eTup (aCons (eC (.int 1009)) aNil)) (aCons (eC (.int 1009)) (aCons (eC (.int 1013)) (aCons (eC (.int 2)) (aCons (eBin powD (eC (.int 10)) (eC (.int 39))) aNil))))))))))))))))
    (sRet (eCall 2 G_l_some (aCons (eVar 0) (aCons (eVar 2) aNil))))))
theorem body_l_odd_prime (t : Txt K mg cl cd) {G_l_some : FS} (h_l_some : FnOk P w K mg base (L2.CX P w) 2 t.l_some.f t.l_some.fd ["hand", "things"] (spD K T 2 G_l_some)) : FnOk P w K mg base (L2.CX P w) (2 + 1) t.l_odd_prime.f t.l_odd_prime.fd ["hand"] (spD K T 1 (fnD 3 (B_l_odd_prime G_l_some))) :=
  fn_D t.l_odd_prime.F sc_l_odd_prime fun cdv A outer s H E hr tk =>
    (dss_cons (ds_set (i := 1) sc_l_odd_prime.nd rfl (by first | exact Or.inl rfl | exact Or.inr rfl) de_int)
    (dss_cons (ds_set (i := 2) sc_l_odd_prime.nd rfl (by first | exact Or.inl rfl | exact Or.inr rfl) (de_lst (da_cons de_int (da_cons de_int (da_cons (de_bin op_sub subD_ok (de_var (pv 1)) de_int) (da_cons (de_var (pv 1)) (da_cons (de_bin op_addA addD_ok (de_var (pv 1)) de_int) (da_cons de_bl (da_cons de_non (da_cons de_str (da_cons (de_bin op_sub subD_ok de_int de_int) (da_cons (de_tup (da_cons de_int da_nil)) (da_cons de_int (da_cons de_int (da_cons de_int (da_cons (de_bin op_pow powD_ok de_int de_int) da_nil))))))))))))))))
    (dss_one (ds_ret (de_call tk h_l_some (hr.mono (by omega)) t.l_some.m t.l_some.F.kp t.l_some.b (da_cons (de_var (pv 0)) (da_cons (de_var (pv 2)) da_nil)))))))
def B_l_is_prime  : SS :=
    (sSeq (sIf (bOr (bNot (bTru (eAr isiD (aCons (eVar 0) (aCons (eC (.ty "int")) aNil))))) (bTru (eAr isiD (aCons (eVar 0) (aCons (eC (.ty "bool")) aNil))))) (sRet (eC (.bl false))) sSkip)
    (sRet (eChain (cmpD fun i j => decide (i ≤ j)) (cmpD fun i j => decide (i ≤ j)) (eC (.int 1000)) (eVar 0) (eC (.int 170141183460469231731687303715884105728)))))
theorem body_l_is_prime (t : Txt K mg cl cd) : FnOk P w K mg base (L2.CX P w) (0 + 1) t.l_is_prime.f t.l_is_prime.fd ["thing"] (spD K T 1 (fnD 1 (B_l_is_prime))) :=
  fn_D t.l_is_prime.F sc_l_is_prime fun cdv A outer s H E hr tk =>
    (dss_cons (ds_if (DW.dt (dw_or (dt_not (dt_tru (de_callB call_isiA isiD_ok (da_cons (de_var (pv 0)) (da_cons (de_ty "int" t.z_int) da_nil)) t.z_isinstance))) (dw_or1 (dt_tru (de_callB call_isiA isiD_ok (da_cons (de_var (pv 0)) (da_cons (de_ty "bool" t.z_bool) da_nil)) t.z_isinstance))))) (dss_one (ds_ret de_bl)) dss_nil)
    (dss_one (ds_ret (de_chain op_le op_le cmpD_ok cmpD_ok de_int (de_var (pv 0)) de_int))))
def B_l_is_text  : SS :=
    (sRet (eAnd (eAr isiD (aCons (eVar 0) (aCons (eC (.ty "str")) aNil))) (eAr allD (aCons (eLc (iSeq (eVar 0)) (gN 1) [1] bYes (eOr (eBin eqD (eVar 1) (eC (.str "\n"))) (eChain (cmpSD sLe) (cmpSD sLe) (eC (.str " ")) (eVar 1) (eC (.str "~"))))) aNil))))
theorem body_l_is_text (t : Txt K mg cl cd) : FnOk P w K mg base (L2.CX P w) (0 + 1) t.l_is_text.f t.l_is_text.fd ["thing"] (spD K T 1 (fnD 2 (B_l_is_text))) :=
  fn_D t.l_is_text.F sc_l_is_text fun cdv A outer s H E hr tk =>
    (dss_one (ds_ret (de_and (de_callB call_isiA isiD_ok (da_cons (de_var (pv 0)) (da_cons (de_ty "str" t.z_str) da_nil)) t.z_isinstance) (de_one (de_callB (cr_all rfl) allD_ok (da_cons (de_lc (own := [("sign", 1)]) rfl sc_l_is_text.nd (di_seq (de_var (pv 0))) (blkOk_by (by kernel_rfl)) (fun _ _ _ _ _ => (dg_name (i := 1) sc_l_is_text.nd rfl (by first | exact Or.inl rfl | exact Or.inr rfl))) (fun _ _ _ _ _ => dts_nil) (fun _ _ _ _ _ => (de_or (de_cmp (op_eqD hr.units) eqD_ok (de_var (pv 1)) de_str) (de_one (de_chain op_le_str op_le_str cmpSD_ok cmpSD_ok de_str (de_var (pv 1)) de_str))))) da_nil) t.z_all)))))
def B_l_is_worth  : SS :=
    (sSeq (sIf (bTru (eAr isiD (aCons (eVar 0) (aCons (eC (.ty "str")) aNil)))) (sRet (eAnd (eBin (cmpD fun i j => decide (i ≤ j)) (eAr lenD (aCons (eVar 0) aNil)) (eC (.int 20))) (eAr allD (aCons (eLc (iSeq (eVar 0)) (gN 1) [1] bYes (eChain (cmpSD sLe) (cmpSD sLe) (eC (.str " ")) (eVar 1) (eC (.str "~")))) aNil)))) sSkip)
    (sRet (eAnd (eAr isiD (aCons (eVar 0) (aCons (eC (.ty "int")) aNil))) (eNot (eAr isiD (aCons (eVar 0) (aCons (eC (.ty "bool")) aNil)))))))
theorem body_l_is_worth (t : Txt K mg cl cd) : FnOk P w K mg base (L2.CX P w) (0 + 1) t.l_is_worth.f t.l_is_worth.fd ["thing"] (spD K T 1 (fnD 2 (B_l_is_worth))) :=
  fn_D t.l_is_worth.F sc_l_is_worth fun cdv A outer s H E hr tk =>
    (dss_cons (ds_if (dt_tru (de_callB call_isiA isiD_ok (da_cons (de_var (pv 0)) (da_cons (de_ty "str" t.z_str) da_nil)) t.z_isinstance)) (dss_one (ds_ret (de_and (de_cmp op_le cmpD_ok (de_callB call_lenA lenD_ok (da_cons (de_var (pv 0)) da_nil) t.z_len) de_int) (de_one (de_callB (cr_all rfl) allD_ok (da_cons (de_lc (own := [("sign", 1)]) rfl sc_l_is_worth.nd (di_seq (de_var (pv 0))) (blkOk_by (by kernel_rfl)) (fun _ _ _ _ _ => (dg_name (i := 1) sc_l_is_worth.nd rfl (by first | exact Or.inl rfl | exact Or.inr rfl))) (fun _ _ _ _ _ => dts_nil) (fun _ _ _ _ _ => (de_chain op_le_str op_le_str cmpSD_ok cmpSD_ok de_str (de_var (pv 1)) de_str))) da_nil) t.z_all))))) dss_nil)
    (dss_one (ds_ret (de_and (de_callB call_isiA isiD_ok (da_cons (de_var (pv 0)) (da_cons (de_ty "int" t.z_int) da_nil)) t.z_isinstance) (de_one (de_not (de_callB call_isiA isiD_ok (da_cons (de_var (pv 0)) (da_cons (de_ty "bool" t.z_bool) da_nil)) t.z_isinstance)))))))
def B_l_is_name  : SS :=
    (sRet (eAnd (eAr isiD (aCons (eVar 0) (aCons (eC (.ty "str")) aNil))) (eAnd (eChain (cmpD fun i j => decide (i ≤ j)) (cmpD fun i j => decide (i ≤ j)) (eC (.int 1)) (eAr lenD (aCons (eVar 0) aNil)) (eC (.int 8))) (eAr allD (aCons (eLc (iSeq (eVar 0)) (gN 1) [1] bYes (eChain (cmpSD sLe) (cmpSD sLe) (eC (.str "a")) (eVar 1) (eC (.str "z")))) aNil)))))
theorem body_l_is_name (t : Txt K mg cl cd) : FnOk P w K mg base (L2.CX P w) (0 + 1) t.l_is_name.f t.l_is_name.fd ["thing"] (spD K T 1 (fnD 2 (B_l_is_name))) :=
  fn_D t.l_is_name.F sc_l_is_name fun cdv A outer s H E hr tk =>
    (dss_one (ds_ret (de_and (de_callB call_isiA isiD_ok (da_cons (de_var (pv 0)) (da_cons (de_ty "str" t.z_str) da_nil)) t.z_isinstance) (de_and (de_chain op_le op_le cmpD_ok cmpD_ok de_int (de_callB call_lenA lenD_ok (da_cons (de_var (pv 0)) da_nil) t.z_len) de_int) (de_one (de_callB (cr_all rfl) allD_ok (da_cons (de_lc (own := [("sign", 1)]) rfl sc_l_is_name.nd (di_seq (de_var (pv 0))) (blkOk_by (by kernel_rfl)) (fun _ _ _ _ _ => (dg_name (i := 1) sc_l_is_name.nd rfl (by first | exact Or.inl rfl | exact Or.inr rfl))) (fun _ _ _ _ _ => dts_nil) (fun _ _ _ _ _ => (de_chain op_le_str op_le_str cmpSD_ok cmpSD_ok de_str (de_var (pv 1)) de_str))) da_nil) t.z_all))))))
def B_l_is_fact (G_l_is_name : FS) (G_l_is_text : FS) (G_l_is_worth : FS) : SS :=
    (sSeq (sIf (bOr (bNot (bTru (eAr isiD (aCons (eVar 0) (aCons (eC (.ty "tuple")) aNil))))) (bOr (bTest (eBin neD (eAr lenD (aCons (eVar 0) aNil)) (eC (.int 2)))) (bOr (bNot (bTru (eCall 1 G_l_is_name (aCons (eBin ixD (eVar 0) (eC (.int 0))) aNil)))) (bNot (bTru (eAr isiD (aCons (eBin ixD (eVar 0) (eC (.int 1))) (aCons (eC (.ty "tuple")) aNil)))))))) (sRet (eC (.bl false))) sSkip)
    (sSeq (sIf (bTest (eBin eqD (eBin ixD (eVar 0) (eC (.int 0))) (eC (.str "rule")))) (sRet (eAnd (eBin eqD (eAr lenD (aCons (eBin ixD (eVar 0) (eC (.int 1))) aNil)) (eC (.int 2))) (eAnd (eCall 1 G_l_is_name (aCons (eBin ixD (eBin ixD (eVar 0) (eC (.int 1))) (eC (.int 0))) aNil)) (eCall 1 G_l_is_text (aCons (eBin ixD (eBin ixD (eVar 0) (eC (.int 1))) (eC (.int 1))) aNil))))) sSkip)
    (sRet (eAnd (eChain (cmpD fun i j => decide (i ≤ j)) (cmpD fun i j => decide (i ≤ j)) (eC (.int 1)) (eAr lenD (aCons (eBin ixD (eVar 0) (eC (.int 1))) aNil)) (eC (.int 5))) (eAr allD (aCons (eLc (iSeq (eBin ixD (eVar 0) (eC (.int 1)))) (gN 1) [1] bYes (eCall 1 G_l_is_worth (aCons (eVar 1) aNil))) aNil))))))
theorem body_l_is_fact (t : Txt K mg cl cd) {G_l_is_name : FS} (h_l_is_name : FnOk P w K mg base (L2.CX P w) 1 t.l_is_name.f t.l_is_name.fd ["thing"] (spD K T 1 G_l_is_name)) {G_l_is_text : FS} (h_l_is_text : FnOk P w K mg base (L2.CX P w) 1 t.l_is_text.f t.l_is_text.fd ["thing"] (spD K T 1 G_l_is_text)) {G_l_is_worth : FS} (h_l_is_worth : FnOk P w K mg base (L2.CX P w) 1 t.l_is_worth.f t.l_is_worth.fd ["thing"] (spD K T 1 G_l_is_worth)) : FnOk P w K mg base (L2.CX P w) (1 + 1) t.l_is_fact.f t.l_is_fact.fd ["thing"] (spD K T 1 (fnD 2 (B_l_is_fact G_l_is_name G_l_is_text G_l_is_worth))) :=
  fn_D t.l_is_fact.F sc_l_is_fact fun cdv A outer s H E hr tk =>
    (dss_cons (ds_if (DW.dt (dw_or (dt_not (dt_tru (de_callB call_isiA isiD_ok (da_cons (de_var (pv 0)) (da_cons (de_ty "tuple" t.z_tuple) da_nil)) t.z_isinstance))) (dw_or (dt_cmp (op_neD hr.units) neD_ok (de_callB call_lenA lenD_ok (da_cons (de_var (pv 0)) da_nil) t.z_len) de_int) (dw_or (dt_not (dt_tru (de_call tk h_l_is_name (hr.mono (by omega)) t.l_is_name.m t.l_is_name.F.kp t.l_is_name.b (da_cons (de_ix (ix_A (hu_of hr)) ixD_ok (de_var (pv 0)) de_int) da_nil)))) (dw_or1 (dt_not (dt_tru (de_callB call_isiA isiD_ok (da_cons (de_ix (ix_A (hu_of hr)) ixD_ok (de_var (pv 0)) de_int) (da_cons (de_ty "tuple" t.z_tuple) da_nil)) t.z_isinstance)))))))) (dss_one (ds_ret de_bl)) dss_nil)
    (dss_cons (ds_if (dt_cmp (op_eqD hr.units) eqD_ok (de_ix (ix_A (hu_of hr)) ixD_ok (de_var (pv 0)) de_int) de_str) (dss_one (ds_ret (de_and (de_cmp (op_eqD hr.units) eqD_ok (de_callB call_lenA lenD_ok (da_cons (de_ix (ix_A (hu_of hr)) ixD_ok (de_var (pv 0)) de_int) da_nil) t.z_len) de_int) (de_and (de_call tk h_l_is_name (hr.mono (by omega)) t.l_is_name.m t.l_is_name.F.kp t.l_is_name.b (da_cons (de_ix (ix_A (hu_of hr)) ixD_ok (de_ix (ix_A (hu_of hr)) ixD_ok (de_var (pv 0)) de_int) de_int) da_nil)) (de_one (de_call tk h_l_is_text (hr.mono (by omega)) t.l_is_text.m t.l_is_text.F.kp t.l_is_text.b (da_cons (de_ix (ix_A (hu_of hr)) ixD_ok (de_ix (ix_A (hu_of hr)) ixD_ok (de_var (pv 0)) de_int) de_int) da_nil))))))) dss_nil)
    (dss_one (ds_ret (de_and (de_chain op_le op_le cmpD_ok cmpD_ok de_int (de_callB call_lenA lenD_ok (da_cons (de_ix (ix_A (hu_of hr)) ixD_ok (de_var (pv 0)) de_int) da_nil) t.z_len) de_int) (de_one (de_callB (cr_all rfl) allD_ok (da_cons (de_lc (own := [("worth", 1)]) rfl sc_l_is_fact.nd (di_seq (de_ix (ix_A (hu_of hr)) ixD_ok (de_var (pv 0)) de_int)) (blkOk_by (by kernel_rfl)) (fun _ _ _ _ _ => (dg_name (i := 1) sc_l_is_fact.nd rfl (by first | exact Or.inl rfl | exact Or.inr rfl))) (fun _ _ _ _ _ => dts_nil) (fun _ _ _ _ _ => (de_call takes0 h_l_is_worth (hr.mono (by omega)) t.l_is_worth.m t.l_is_worth.F.kp t.l_is_worth.b (da_cons (de_var (pv 1)) da_nil)))) da_nil) t.z_all)))))))
def B_l_bent_fact (G_l_some : FS) (G_l_odd : FS) (G_l_draw : FS) : SS :=
    (sSeq (sAsg (eVar 1) (gT 2 (gsCons (gN 2) (gsCons (gN 3) gsNil))))
    (sSeq (sIf (bTest (eBin eqD (eVar 2) (eC (.str "rule")))) (sRet (eCall 2 G_l_some (aCons (eVar 0) (aCons (eLst (aCons (eAr listD (aCons (eVar 1) aNil)) (aCons (eTup (aCons (eVar 2) (aCons (eAr listD (aCons (eVar 3) aNil)) aNil))) (aCons (eTup (aCons (eVar 2) (aCons (eTup (aCons (eBin ixD (eVar 3) (eC (.int 0))) (aCons (eC .non) aNil))) aNil))) (aCons (eTup (aCons (eVar 2) (aCons (eTup aNil) aNil))) (aCons (eCall 1 G_l_odd (aCons (eVar 0) aNil)) aNil)))))) aNil)))) sSkip)
    (sSeq (sPar 4 5 (aCons (eCall 2 G_l_draw (aCons (eVar 0) (aCons (eAr lenD (aCons (eVar 3) aNil)) aNil))) (aCons (eCall 2 G_l_some (aCons (eVar 0) (aCons (eLst (aCons (eC (.bl true)) (aCons (eC .non) (aCons (eBin mulAD (eC (.str "a")) (eC (.int 21))) (aCons (eLst (aCons (eC (.str "a")) aNil)) (aCons (eTup (aCons (eC (.str "a")) aNil)) (aCons (eC (.str "a\n")) (aCons (eC (.str "b")) (aCons (eC (.int 5)) aNil))))))))) aNil))) aNil)))
    (sSeq (sSet 6 (eLst (aCons (eTup (aCons (eVar 2) (aCons (eBin addD (eBin addD (eSl (eVar 3) pNone (pSome (eVar 4))) (eTup (aCons (eVar 5) aNil))) (eSl (eVar 3) (pSome (eBin addD (eVar 4) (eC (.int 1)))) pNone)) aNil))) (aCons (eTup (aCons (eVar 2) (aCons (eTup aNil) aNil))) (aCons (eTup (aCons (eVar 2) (aCons (eBin mulAD (eVar 3) (eC (.int 6))) aNil))) (aCons (eAr listD (aCons (eVar 1) aNil)) (aCons (eTup (aCons (eMt "str" upperD (eVar 2) aNil) (aCons (eVar 3) aNil))) aNil)))))))
    (sSeq (sSet 6 (eBin addD (eVar 6) (eLst (aCons (eTup (aCons (eBin addD (eVar 2) (eC (.str "zzzzzzzzz"))) (aCons (eVar 3) aNil))) (aCons (eTup (aCons (eC (.str "")) (aCons (eVar 3) aNil))) (aCons (eTup (aCons (eVar 2) (aCons (eAr listD (aCons (eVar 3) aNil)) aNil))) (aCons (eBin addD (eVar 1) (eTup (aCons (eC (.int 1)) aNil))) (aCons (eTup (aCons (eC (.int 1)) (aCons (eVar 3) aNil))) (aCons (eCall 1 G_l_odd (aCons (eVar 0) aNil)) aNil)))))))))
    (sRet (eCall 2 G_l_some (aCons (eVar 0) (aCons (eVar 6) aNil)))))))))
theorem body_l_bent_fact (t : Txt K mg cl cd) {G_l_some : FS} (h_l_some : FnOk P w K mg base (L2.CX P w) 2 t.l_some.f t.l_some.fd ["hand", "things"] (spD K T 2 G_l_some)) {G_l_odd : FS} (h_l_odd : FnOk P w K mg base (L2.CX P w) 3 t.l_odd.f t.l_odd.fd ["hand"] (spD K T 1 G_l_odd)) {G_l_draw : FS} (h_l_draw : FnOk P w K mg base (L2.CX P w) 1 t.l_draw.f t.l_draw.fd ["hand", "many"] (spD K T 2 G_l_draw)) : FnOk P w K mg base (L2.CX P w) (3 + 1) t.l_bent_fact.f t.l_bent_fact.fd ["hand", "fact"] (spD K T 2 (fnD 7 (B_l_bent_fact G_l_some G_l_odd G_l_draw))) :=
  fn_D t.l_bent_fact.F sc_l_bent_fact fun cdv A outer s H E hr tk =>
    (dss_cons (ds_asg (de_var (pv 1)) (dg_tup rfl (dgs_cons (dg_name (i := 2) sc_l_bent_fact.nd rfl (by first | exact Or.inl rfl | exact Or.inr rfl)) (dgs_cons (dg_name (i := 3) sc_l_bent_fact.nd rfl (by first | exact Or.inl rfl | exact Or.inr rfl)) dgs_nil))))
    (dss_cons (ds_if (dt_cmp (op_eqD hr.units) eqD_ok (de_var (pv 2)) de_str) (dss_one (ds_ret (de_call tk h_l_some (hr.mono (by omega)) t.l_some.m t.l_some.F.kp t.l_some.b (da_cons (de_var (pv 0)) (da_cons (de_lst (da_cons (de_callTy (L2.CallR.frz call_list_of) listD_ok (da_cons (de_var (pv 1)) da_nil) t.z_list) (da_cons (de_tup (da_cons (de_var (pv 2)) (da_cons (de_callTy (L2.CallR.frz call_list_of) listD_ok (da_cons (de_var (pv 3)) da_nil) t.z_list) da_nil))) (da_cons (de_tup (da_cons (de_var (pv 2)) (da_cons (de_tup (da_cons (de_ix (ix_A (hu_of hr)) ixD_ok (de_var (pv 3)) de_int) (da_cons de_non da_nil))) da_nil))) (da_cons (de_tup (da_cons (de_var (pv 2)) (da_cons (de_tup da_nil) da_nil))) (da_cons (de_call tk h_l_odd (hr.mono (by omega)) t.l_odd.m t.l_odd.F.kp t.l_odd.b (da_cons (de_var (pv 0)) da_nil)) da_nil)))))) da_nil))))) dss_nil)
    (dss_cons (ds_par (i := 4) (j := 5) rfl sc_l_bent_fact.nd rfl rfl (by decide) rfl rfl (da_cons (de_call tk h_l_draw (hr.mono (by omega)) t.l_draw.m t.l_draw.F.kp t.l_draw.b (da_cons (de_var (pv 0)) (da_cons (de_callB call_lenA lenD_ok (da_cons (de_var (pv 3)) da_nil) t.z_len) da_nil))) (da_cons (de_call tk h_l_some (hr.mono (by omega)) t.l_some.m t.l_some.F.kp t.l_some.b (da_cons (de_var (pv 0)) (da_cons (de_lst (da_cons de_bl (da_cons de_non (da_cons (de_bin op_mulA mulAD_ok de_str de_int) (da_cons (de_lst (da_cons de_str da_nil)) (da_cons (de_tup (da_cons de_str da_nil)) (da_cons de_str (da_cons de_str (da_cons de_int da_nil))))))))) da_nil))) da_nil)) (by rfl))
    (dss_cons (ds_set (i := 6) sc_l_bent_fact.nd rfl (by first | exact Or.inl rfl | exact Or.inr rfl) (de_lst (da_cons (de_tup (da_cons (de_var (pv 2)) (da_cons (de_bin op_addA addD_ok (de_bin op_addA addD_ok (de_slice (de_var (pv 3)) dp_none (dp_some (de_var (pv 4)))) (de_tup (da_cons (de_var (pv 5)) da_nil))) (de_slice (de_var (pv 3)) (dp_some (de_bin op_addA addD_ok (de_var (pv 4)) de_int)) dp_none)) da_nil))) (da_cons (de_tup (da_cons (de_var (pv 2)) (da_cons (de_tup da_nil) da_nil))) (da_cons (de_tup (da_cons (de_var (pv 2)) (da_cons (de_bin op_mulA mulAD_ok (de_var (pv 3)) de_int) da_nil))) (da_cons (de_callTy (L2.CallR.frz call_list_of) listD_ok (da_cons (de_var (pv 1)) da_nil) t.z_list) (da_cons (de_tup (da_cons (de_mt0 PySem.F.plainAttrs_str PySem.F.slot_str_upper PySem.F.type_str_upper mt_upper upperD_ok (de_var (pv 2))) (da_cons (de_var (pv 3)) da_nil))) da_nil)))))))
    (dss_cons (ds_set (i := 6) sc_l_bent_fact.nd rfl (by first | exact Or.inl rfl | exact Or.inr rfl) (de_bin op_addA addD_ok (de_var (pv 6)) (de_lst (da_cons (de_tup (da_cons (de_bin op_addA addD_ok (de_var (pv 2)) de_str) (da_cons (de_var (pv 3)) da_nil))) (da_cons (de_tup (da_cons de_str (da_cons (de_var (pv 3)) da_nil))) (da_cons (de_tup (da_cons (de_var (pv 2)) (da_cons (de_callTy (L2.CallR.frz call_list_of) listD_ok (da_cons (de_var (pv 3)) da_nil) t.z_list) da_nil))) (da_cons (de_bin op_addA addD_ok (de_var (pv 1)) (de_tup (da_cons de_int da_nil))) (da_cons (de_tup (da_cons de_int (da_cons (de_var (pv 3)) da_nil))) (da_cons (de_call tk h_l_odd (hr.mono (by omega)) t.l_odd.m t.l_odd.F.kp t.l_odd.b (da_cons (de_var (pv 0)) da_nil)) da_nil)))))))))
    (dss_one (ds_ret (de_call tk h_l_some (hr.mono (by omega)) t.l_some.m t.l_some.F.kp t.l_some.b (da_cons (de_var (pv 0)) (da_cons (de_var (pv 6)) da_nil))))))))))
def B_l_prime (G_l_some : FS) : SS :=
    (sRet (eCall 2 G_l_some (aCons (eVar 0) (aCons (eLst (aCons (eC (.int 1009)) (aCons (eC (.int 1013)) (aCons (eC (.int 10007)) (aCons (eC (.int 1000003)) (aCons (eC (.int 2147483647)) (aCons (eC (.int 2305843009213693951)) (aCons (eC (.int 618970019642690137449562111)) aNil)))))))) aNil))))
theorem body_l_prime (t : Txt K mg cl cd) {G_l_some : FS} (h_l_some : FnOk P w K mg base (L2.CX P w) 2 t.l_some.f t.l_some.fd ["hand", "things"] (spD K T 2 G_l_some)) : FnOk P w K mg base (L2.CX P w) (2 + 1) t.l_prime.f t.l_prime.fd ["hand"] (spD K T 1 (fnD 1 (B_l_prime G_l_some))) :=
  fn_D t.l_prime.F sc_l_prime fun cdv A outer s H E hr tk =>
    (dss_one (ds_ret (de_call tk h_l_some (hr.mono (by omega)) t.l_some.m t.l_some.F.kp t.l_some.b (da_cons (de_var (pv 0)) (da_cons (de_lst (da_cons de_int (da_cons de_int (da_cons de_int (da_cons de_int (da_cons de_int (da_cons de_int (da_cons de_int da_nil)))))))) da_nil)))))
def B_l_worth (G_l_draw : FS) (G_l_some : FS) : SS :=
    (sSeq (sSet 1 (eLst (aCons (eC (.str "")) (aCons (eC (.str "a")) (aCons (eC (.str "ab")) (aCons (eC (.str "it's")) (aCons (eC (.str "~")) (aCons (eC (.str "b c")) (aCons (eC (.str "x~'")) (aCons (eC (.str "9")) (aCons (eC (.str "A")) (aCons (eBin mulAD (eC (.str "'")) (eBin addD (eC (.int 1)) (eCall 2 G_l_draw (aCons (eVar 0) (aCons (eC (.int 20)) aNil))))) aNil))))))))))))
    (sSeq (sIf (bTest (eBin eqD (eCall 2 G_l_draw (aCons (eVar 0) (aCons (eC (.int 3)) aNil))) (eC (.int 0)))) (sRet (eCall 2 G_l_some (aCons (eVar 0) (aCons (eVar 1) aNil)))) sSkip)
    (sRet (eCall 2 G_l_some (aCons (eVar 0) (aCons (eLst (aCons (eCall 2 G_l_draw (aCons (eVar 0) (aCons (eC (.int 9)) aNil))) (aCons (eBin subD (eCall 2 G_l_draw (aCons (eVar 0) (aCons (eC (.int 60)) aNil))) (eC (.int 30))) (aCons (eBin subD (eBin powD (eC (.int 10)) (eC (.int 20))) (eC (.int 1))) (aCons (eBin subD (eC (.int 1)) (eBin powD (eC (.int 10)) (eC (.int 20)))) (aCons (eC (.int 0)) (aCons (eBin powD (eC (.int 10)) (eC (.int 30))) aNil))))))) aNil))))))
theorem body_l_worth (t : Txt K mg cl cd) {G_l_draw : FS} (h_l_draw : FnOk P w K mg base (L2.CX P w) 1 t.l_draw.f t.l_draw.fd ["hand", "many"] (spD K T 2 G_l_draw)) {G_l_some : FS} (h_l_some : FnOk P w K mg base (L2.CX P w) 2 t.l_some.f t.l_some.fd ["hand", "things"] (spD K T 2 G_l_some)) : FnOk P w K mg base (L2.CX P w) (2 + 1) t.l_worth.f t.l_worth.fd ["hand"] (spD K T 1 (fnD 2 (B_l_worth G_l_draw G_l_some))) :=
  fn_D t.l_worth.F sc_l_worth fun cdv A outer s H E hr tk =>
    (dss_cons (ds_set (i := 1) sc_l_worth.nd rfl (by first | exact Or.inl rfl | exact Or.inr rfl) (de_lst (da_cons de_str (da_cons de_str (da_cons de_str (da_cons de_str (da_cons de_str (da_cons de_str (da_cons de_str (da_cons de_str (da_cons de_str (da_cons (de_bin op_mulA mulAD_ok de_str (de_bin op_addA addD_ok de_int (de_call tk h_l_draw (hr.mono (by omega)) t.l_draw.m t.l_draw.F.kp t.l_draw.b (da_cons (de_var (pv 0)) (da_cons de_int da_nil))))) da_nil))))))))))))
    (dss_cons (ds_if (dt_cmp (op_eqD hr.units) eqD_ok (de_call tk h_l_draw (hr.mono (by omega)) t.l_draw.m t.l_draw.F.kp t.l_draw.b (da_cons (de_var (pv 0)) (da_cons de_int da_nil))) de_int) (dss_one (ds_ret (de_call tk h_l_some (hr.mono (by omega)) t.l_some.m t.l_some.F.kp t.l_some.b (da_cons (de_var (pv 0)) (da_cons (de_var (pv 1)) da_nil))))) dss_nil)
    (dss_one (ds_ret (de_call tk h_l_some (hr.mono (by omega)) t.l_some.m t.l_some.F.kp t.l_some.b (da_cons (de_var (pv 0)) (da_cons (de_lst (da_cons (de_call tk h_l_draw (hr.mono (by omega)) t.l_draw.m t.l_draw.F.kp t.l_draw.b (da_cons (de_var (pv 0)) (da_cons de_int da_nil))) (da_cons (de_bin op_sub subD_ok (de_call tk h_l_draw (hr.mono (by omega)) t.l_draw.m t.l_draw.F.kp t.l_draw.b (da_cons (de_var (pv 0)) (da_cons de_int da_nil))) de_int) (da_cons (de_bin op_sub subD_ok (de_bin op_pow powD_ok de_int de_int) de_int) (da_cons (de_bin op_sub subD_ok de_int (de_bin op_pow powD_ok de_int de_int)) (da_cons de_int (da_cons (de_bin op_pow powD_ok de_int de_int) da_nil))))))) da_nil)))))))
def B_l_fact (G_l_draw : FS) (G_l_some : FS) (G_l_worth : FS) : SS :=
    (sSeq (sIf (bTest (eBin eqD (eCall 2 G_l_draw (aCons (eVar 0) (aCons (eC (.int 9)) aNil))) (eC (.int 0)))) (sSeq (sSet 1 (eLst (aCons (eC (.str "p(?0) if q(?0)")) (aCons (eC (.str "p(?0) if q(?0), not r(?0, _)")) (aCons (eC (.str "p('it~'s') if q(1)")) (aCons (eC (.str "")) aNil))))))
    (sRet (eTup (aCons (eC (.str "rule")) (aCons (eTup (aCons (eCall 2 G_l_some (aCons (eVar 0) (aCons (eLst (aCons (eC (.str "a")) (aCons (eC (.str "b")) (aCons (eC (.str "zz")) (aCons (eC (.str "rule")) aNil))))) aNil))) (aCons (eCall 2 G_l_some (aCons (eVar 0) (aCons (eVar 1) aNil))) aNil))) aNil))))) sSkip)
    (sSeq (sSet 2 (eCall 2 G_l_some (aCons (eVar 0) (aCons (eLst (aCons (eC (.str "a")) (aCons (eC (.str "b")) (aCons (eC (.str "b")) (aCons (eC (.str "bag")) (aCons (eC (.str "q")) (aCons (eC (.str "zz")) aNil))))))) aNil))))
    (sSeq (sSet 3 (eBin ixD (eDisp (pCons (eC (.str "a")) (eC (.int 1)) (pCons (eC (.str "b")) (eC (.int 2)) (pCons (eC (.str "bag")) (eC (.int 3)) (pCons (eC (.str "q")) (eBin addD (eC (.int 1)) (eCall 2 G_l_draw (aCons (eVar 0) (aCons (eC (.int 5)) aNil)))) (pCons (eC (.str "zz")) (eC (.int 2)) pNil)))))) (eVar 2)))
    (sRet (eTup (aCons (eVar 2) (aCons (eAr tupleD (aCons (eLc (iRng1 (aCons (eVar 3) aNil)) (gN 4) [4] bYes (eCall 1 G_l_worth (aCons (eVar 0) aNil))) aNil)) aNil)))))))
theorem body_l_fact (t : Txt K mg cl cd) {G_l_draw : FS} (h_l_draw : FnOk P w K mg base (L2.CX P w) 1 t.l_draw.f t.l_draw.fd ["hand", "many"] (spD K T 2 G_l_draw)) {G_l_some : FS} (h_l_some : FnOk P w K mg base (L2.CX P w) 2 t.l_some.f t.l_some.fd ["hand", "things"] (spD K T 2 G_l_some)) {G_l_worth : FS} (h_l_worth : FnOk P w K mg base (L2.CX P w) 3 t.l_worth.f t.l_worth.fd ["hand"] (spD K T 1 G_l_worth)) : FnOk P w K mg base (L2.CX P w) (3 + 1) t.l_fact.f t.l_fact.fd ["hand"] (spD K T 1 (fnD 5 (B_l_fact G_l_draw G_l_some G_l_worth))) :=
  fn_D t.l_fact.F sc_l_fact fun cdv A outer s H E hr tk =>
    (dss_cons (ds_if (dt_cmp (op_eqD hr.units) eqD_ok (de_call tk h_l_draw (hr.mono (by omega)) t.l_draw.m t.l_draw.F.kp t.l_draw.b (da_cons (de_var (pv 0)) (da_cons de_int da_nil))) de_int) (dss_cons (ds_set (i := 1) sc_l_fact.nd rfl (by first | exact Or.inl rfl | exact Or.inr rfl) (de_lst (da_cons de_str (da_cons de_str (da_cons de_str (da_cons de_str da_nil))))))
    (dss_one (ds_ret (de_tup (da_cons de_str (da_cons (de_tup (da_cons (de_call tk h_l_some (hr.mono (by omega)) t.l_some.m t.l_some.F.kp t.l_some.b (da_cons (de_var (pv 0)) (da_cons (de_lst (da_cons de_str (da_cons de_str (da_cons de_str (da_cons de_str da_nil))))) da_nil))) (da_cons (de_call tk h_l_some (hr.mono (by omega)) t.l_some.m t.l_some.F.kp t.l_some.b (da_cons (de_var (pv 0)) (da_cons (de_var (pv 1)) da_nil))) da_nil))) da_nil)))))) dss_nil)
    (dss_cons (ds_set (i := 2) sc_l_fact.nd rfl (by first | exact Or.inl rfl | exact Or.inr rfl) (de_call tk h_l_some (hr.mono (by omega)) t.l_some.m t.l_some.F.kp t.l_some.b (da_cons (de_var (pv 0)) (da_cons (de_lst (da_cons de_str (da_cons de_str (da_cons de_str (da_cons de_str (da_cons de_str (da_cons de_str da_nil))))))) da_nil))))
    (dss_cons (ds_set (i := 3) sc_l_fact.nd rfl (by first | exact Or.inl rfl | exact Or.inr rfl) (de_ix (ix_A (hu_of hr)) ixD_ok (de_disp (dps_cons de_str de_int (dps_cons de_str de_int (dps_cons de_str de_int (dps_cons de_str (de_bin op_addA addD_ok de_int (de_call tk h_l_draw (hr.mono (by omega)) t.l_draw.m t.l_draw.F.kp t.l_draw.b (da_cons (de_var (pv 0)) (da_cons de_int da_nil)))) (dps_cons de_str de_int dps_nil)))))) (de_var (pv 2))))
    (dss_one (ds_ret (de_tup (da_cons (de_var (pv 2)) (da_cons (de_callTy call_tupleF tupleD_ok (da_cons (de_lc (own := [("place", 4)]) rfl sc_l_fact.nd (di_range1 t.z_range (da_cons (de_var (pv 3)) da_nil)) (blkOk_by (by kernel_rfl)) (fun _ _ _ _ _ => (dg_name (i := 4) sc_l_fact.nd rfl (by first | exact Or.inl rfl | exact Or.inr rfl))) (fun _ _ _ _ _ => dts_nil) (fun _ _ _ _ _ => (de_call takes0 h_l_worth (hr.mono (by omega)) t.l_worth.m t.l_worth.F.kp t.l_worth.b (da_cons (de_var (pv 0)) da_nil)))) da_nil) t.z_tuple) da_nil))))))))
def B_l_is (G_l_is : FS) : SS :=
    (sSeq (sIf (bTru (eAr isiD (aCons (eVar 1) (aCons (eTup (aCons (eC (.ty "tuple")) (aCons (eC (.ty "list")) aNil))) aNil)))) (sSeq (sIf (bOr (bTest (eBin neD (eAr isiD (aCons (eVar 0) (aCons (eC (.ty "tuple")) aNil))) (eAr isiD (aCons (eVar 1) (aCons (eC (.ty "tuple")) aNil))))) (bNot (bTru (eAr isiD (aCons (eVar 0) (aCons (eTup (aCons (eC (.ty "tuple")) (aCons (eC (.ty "list")) aNil))) aNil)))))) (sRet (eC (.bl false))) sSkip)
    (sRet (eAnd (eBin eqD (eAr lenD (aCons (eVar 0) aNil)) (eAr lenD (aCons (eVar 1) aNil))) (eAr allD (aCons (eLc (iZipD (aCons (eVar 0) (aCons (eVar 1) aNil))) (gT 2 (gsCons (gN 2) (gsCons (gN 3) gsNil))) [2, 3] bYes (eCall 2 G_l_is (aCons (eVar 2) (aCons (eVar 3) aNil)))) aNil))))) sSkip)
    (sSeq (sIf (bOr (bTru (eAr isiD (aCons (eVar 1) (aCons (eC (.ty "str")) aNil)))) (bTest (eBin isND (eVar 1) (eC .non)))) (sRet (eAnd (eBin eqD (eAr isiD (aCons (eVar 0) (aCons (eC (.ty "str")) aNil))) (eAr isiD (aCons (eVar 1) (aCons (eC (.ty "str")) aNil)))) (eBin eqD (eVar 0) (eVar 1)))) sSkip)
    (sRet (eAnd (eAr isiD (aCons (eVar 0) (aCons (eC (.ty "int")) aNil))) (eAnd (eBin eqD (eAr isiD (aCons (eVar 0) (aCons (eC (.ty "bool")) aNil))) (eAr isiD (aCons (eVar 1) (aCons (eC (.ty "bool")) aNil)))) (eBin eqD (eVar 0) (eVar 1)))))))
theorem body_l_is (t : Txt K mg cl cd) {kk : Nat} (hk : 0 ≤ kk) {G_l_is : FS} (h_l_is : FnOk P w K mg base (L2.CX P w) kk t.l_is.f t.l_is.fd ["told", "due"] (spD K T 2 G_l_is)) : FnOk P w K mg base (L2.CX P w) (kk + 1) t.l_is.f t.l_is.fd ["told", "due"] (spD K T 2 (fnD 4 (B_l_is G_l_is))) :=
  fn_D t.l_is.F sc_l_is fun cdv A outer s H E hr tk =>
    (dss_cons (ds_if (dt_tru (de_callB call_isiA isiD_ok (da_cons (de_var (pv 1)) (da_cons (de_tup (da_cons (de_ty "tuple" t.z_tuple) (da_cons (de_ty "list" t.z_list) da_nil))) da_nil)) t.z_isinstance)) (dss_cons (ds_if (DW.dt (dw_or (dt_cmp (op_neD hr.units) neD_ok (de_callB call_isiA isiD_ok (da_cons (de_var (pv 0)) (da_cons (de_ty "tuple" t.z_tuple) da_nil)) t.z_isinstance) (de_callB call_isiA isiD_ok (da_cons (de_var (pv 1)) (da_cons (de_ty "tuple" t.z_tuple) da_nil)) t.z_isinstance)) (dw_or1 (dt_not (dt_tru (de_callB call_isiA isiD_ok (da_cons (de_var (pv 0)) (da_cons (de_tup (da_cons (de_ty "tuple" t.z_tuple) (da_cons (de_ty "list" t.z_list) da_nil))) da_nil)) t.z_isinstance)))))) (dss_one (ds_ret de_bl)) dss_nil)
    (dss_one (ds_ret (de_and (de_cmp (op_eqD hr.units) eqD_ok (de_callB call_lenA lenD_ok (da_cons (de_var (pv 0)) da_nil) t.z_len) (de_callB call_lenA lenD_ok (da_cons (de_var (pv 1)) da_nil) t.z_len)) (de_one (de_callB (cr_all rfl) allD_ok (da_cons (de_lc (own := [("one", 2), ("two", 3)]) rfl sc_l_is.nd (di_zip t.z_zip (da_cons (de_var (pv 0)) (da_cons (de_var (pv 1)) da_nil))) (blkOk_by (by kernel_rfl)) (fun _ _ _ _ _ => (dg_tup rfl (dgs_cons (dg_name (i := 2) sc_l_is.nd rfl (by first | exact Or.inl rfl | exact Or.inr rfl)) (dgs_cons (dg_name (i := 3) sc_l_is.nd rfl (by first | exact Or.inl rfl | exact Or.inr rfl)) dgs_nil)))) (fun _ _ _ _ _ => dts_nil) (fun _ _ _ _ _ => (de_call takes0 h_l_is (hr.mono (by omega)) t.l_is.m t.l_is.F.kp t.l_is.b (da_cons (de_var (pv 2)) (da_cons (de_var (pv 3)) da_nil))))) da_nil) t.z_all)))))) dss_nil)
    (dss_cons (ds_if (DW.dt (dw_or (dt_tru (de_callB call_isiA isiD_ok (da_cons (de_var (pv 1)) (da_cons (de_ty "str" t.z_str) da_nil)) t.z_isinstance)) (dw_or1 (dt_cmp op_isN isND_ok (de_var (pv 1)) de_non)))) (dss_one (ds_ret (de_and (de_cmp (op_eqD hr.units) eqD_ok (de_callB call_isiA isiD_ok (da_cons (de_var (pv 0)) (da_cons (de_ty "str" t.z_str) da_nil)) t.z_isinstance) (de_callB call_isiA isiD_ok (da_cons (de_var (pv 1)) (da_cons (de_ty "str" t.z_str) da_nil)) t.z_isinstance)) (de_one (de_cmp (op_eqD hr.units) eqD_ok (de_var (pv 0)) (de_var (pv 1))))))) dss_nil)
    (dss_one (ds_ret (de_and (de_callB call_isiA isiD_ok (da_cons (de_var (pv 0)) (da_cons (de_ty "int" t.z_int) da_nil)) t.z_isinstance) (de_and (de_cmp (op_eqD hr.units) eqD_ok (de_callB call_isiA isiD_ok (da_cons (de_var (pv 0)) (da_cons (de_ty "bool" t.z_bool) da_nil)) t.z_isinstance) (de_callB call_isiA isiD_ok (da_cons (de_var (pv 1)) (da_cons (de_ty "bool" t.z_bool) da_nil)) t.z_isinstance)) (de_one (de_cmp (op_eqD hr.units) eqD_ok (de_var (pv 0)) (de_var (pv 1))))))))))
def B_l_text (G_l_draw : FS) (G_l_some : FS) : SS :=
    (sSeq (sSet 1 (eLst (aCons (eC (.str " ")) (aCons (eC (.str "~")) (aCons (eC (.str "'")) (aCons (eC (.str "a")) (aCons (eC (.str "Z")) (aCons (eC (.str "0")) (aCons (eC (.str "\n")) (aCons (eC (.str "_")) (aCons (eC (.str "!")) (aCons (eC (.str "}")) (aCons (eC (.str ",")) (aCons (eC (.str "(")) aNil))))))))))))))
    (sSeq (sSet 2 (eIf (bTest (eBin eqD (eCall 2 G_l_draw (aCons (eVar 0) (aCons (eC (.int 4)) aNil))) (eC (.int 0)))) (eCall 2 G_l_some (aCons (eVar 0) (aCons (eLst (aCons (eC (.int 0)) (aCons (eC (.int 1)) (aCons (eC (.int 12)) (aCons (eC (.int 200)) (aCons (eC (.int 2000)) aNil)))))) aNil))) (eCall 2 G_l_draw (aCons (eVar 0) (aCons (eC (.int 9)) aNil)))))
    (sRet (eMt "str" joinD (eC (.str "")) (aCons (eLc (iRng1 (aCons (eVar 2) aNil)) (gN 3) [3] bYes (eCall 2 G_l_some (aCons (eVar 0) (aCons (eVar 1) aNil)))) aNil)))))
theorem body_l_text (t : Txt K mg cl cd) {G_l_draw : FS} (h_l_draw : FnOk P w K mg base (L2.CX P w) 1 t.l_draw.f t.l_draw.fd ["hand", "many"] (spD K T 2 G_l_draw)) {G_l_some : FS} (h_l_some : FnOk P w K mg base (L2.CX P w) 2 t.l_some.f t.l_some.fd ["hand", "things"] (spD K T 2 G_l_some)) : FnOk P w K mg base (L2.CX P w) (2 + 1) t.l_text.f t.l_text.fd ["hand"] (spD K T 1 (fnD 4 (B_l_text G_l_draw G_l_some))) :=
  fn_D t.l_text.F sc_l_text fun cdv A outer s H E hr tk =>
    (dss_cons (ds_set (i := 1) sc_l_text.nd rfl (by first | exact Or.inl rfl | exact Or.inr rfl) (de_lst (da_cons de_str (da_cons de_str (da_cons de_str (da_cons de_str (da_cons de_str (da_cons de_str (da_cons de_str (da_cons de_str (da_cons de_str (da_cons de_str (da_cons de_str (da_cons de_str da_nil))))))))))))))
    (dss_cons (ds_set (i := 2) sc_l_text.nd rfl (by first | exact Or.inl rfl | exact Or.inr rfl) (de_if (dt_cmp (op_eqD hr.units) eqD_ok (de_call tk h_l_draw (hr.mono (by omega)) t.l_draw.m t.l_draw.F.kp t.l_draw.b (da_cons (de_var (pv 0)) (da_cons de_int da_nil))) de_int) (de_call tk h_l_some (hr.mono (by omega)) t.l_some.m t.l_some.F.kp t.l_some.b (da_cons (de_var (pv 0)) (da_cons (de_lst (da_cons de_int (da_cons de_int (da_cons de_int (da_cons de_int (da_cons de_int da_nil)))))) da_nil))) (de_call tk h_l_draw (hr.mono (by omega)) t.l_draw.m t.l_draw.F.kp t.l_draw.b (da_cons (de_var (pv 0)) (da_cons de_int da_nil)))))
    (dss_one (ds_ret (de_mt PySem.F.plainAttrs_str PySem.F.slot_str_join PySem.F.type_str_join mt_join joinD_ok de_str (da_cons (de_lc (own := [("turn", 3)]) rfl sc_l_text.nd (di_range1 t.z_range (da_cons (de_var (pv 2)) da_nil)) (blkOk_by (by kernel_rfl)) (fun _ _ _ _ _ => (dg_name (i := 3) sc_l_text.nd rfl (by first | exact Or.inl rfl | exact Or.inr rfl))) (fun _ _ _ _ _ => dts_nil) (fun _ _ _ _ _ => (de_call takes0 h_l_some (hr.mono (by omega)) t.l_some.m t.l_some.F.kp t.l_some.b (da_cons (de_var (pv 0)) (da_cons (de_var (pv 1)) da_nil))))) da_nil))))))
noncomputable def B_l_word (K : PySem.W.Frag) (cl : Str → Addr) (L : D) (th : Th) : SS :=
    (sTryAs (sRet (eTup (aCons (eC (.str "let")) (aCons (eAct L th) aNil)))) 1 (fun c => PySem.W.exmOne K (.ref c) (.ref (cl "ViewError"))) (fun ea ec => (sSeq (sSet 2 (eLst (aCons (eAr (isED K ea ec) (aCons (eVar 1) (aCons (eC (.ref (cl "NoPrime"))) aNil))) (aCons (eAr (isED K ea ec) (aCons (eVar 1) (aCons (eC (.ref (cl "NoText"))) aNil))) (aCons (eAr (isED K ea ec) (aCons (eVar 1) (aCons (eC (.ref (cl "NoFact"))) aNil))) aNil)))))
    (sRet (eIf (bTest (eBin eqD (eMt "list" countD (eVar 2) (aCons (eC (.bl true)) aNil)) (eC (.int 1)))) (eBin ixD (eLst (aCons (eC (.str "prime")) (aCons (eC (.str "text")) (aCons (eC (.str "fact")) aNil)))) (eMt "list" indexD (eVar 2) (aCons (eC (.bl true)) aNil))) (eC (.str "odd")))))))
def Gives_l_word (P : Program) (w : World) (base : Heap) (T : List (Addr × Str)) {K : PySem.W.Frag} {mg : Str → Option Value} {cl : Str → Addr} {cd : Nat → Addr} (t : Txt K mg cl cd) (G : Th → Th) : Prop :=
  ∀ (X : Cx) (k : Nat) (cdv : Value), (X.prog = P ∧ X.w = w ∧ X.K = K ∧ X.mg = mg ∧ X.base = base) → 0 ≤ k → Room (k + 2) X.A → GivesD X T ["call", "error", "some"] "_law_word" (defScope st_l_word) t.l_word.f cdv (defBody st_l_word) "call" G
theorem body_l_word (t : Txt K mg cl cd) {G : Th → Th} (hG : ∀ L th m, G th m = .no ∨ fnD 3 (B_l_word K cl L th) [L] m = G th m) : Gives_l_word P w base T t G := by
  intro X k cdv ⟨e1, e2, e3, e4, e5⟩ hk hr0
  subst e1 e2 e3 e4 e5
  refine gives_D (fun L th => B_l_word X.K cl L th) hG fun L th s H act => ?_
  have hr : Room (k + 1) (GCx X ["call", "error", "some"] "_law_word" (defScope st_l_word) t.l_word.f cdv s H).A := hr0.deeper _
  exact (dss_one (ds_tryAs (i := 1) sc_l_word.nd t.k_ViewError takes0 (fun W pn xe tk => (dss_one (ds_ret (de_tup (da_cons de_str (da_cons (act _ _ _ _ _ tk) da_nil)))))) (fun ea oe ec pn hz hf => have hu0 := hu_of hr; have hu1 := hr.units1; have hu2 := hr.units; have hu3 := hr.u1; (dss_cons (ds_set (i := 2) sc_l_word.nd rfl (by first | exact Or.inl rfl | exact Or.inr rfl) (de_lst (da_cons (de_callB (cr_isE hz hf) isED_ok (da_cons (de_var (pv 1)) (da_cons (de_cls t.k_NoPrime) da_nil)) t.z_isinstance) (da_cons (de_callB (cr_isE hz hf) isED_ok (da_cons (de_var (pv 1)) (da_cons (de_cls t.k_NoText) da_nil)) t.z_isinstance) (da_cons (de_callB (cr_isE hz hf) isED_ok (da_cons (de_var (pv 1)) (da_cons (de_cls t.k_NoFact) da_nil)) t.z_isinstance) da_nil)))))
    (dss_one (ds_ret (de_if (dt_cmp (op_eqD hu2) eqD_ok (de_mt PySem.F.plainAttrs_list PySem.F.slot_list_count PySem.F.type_list_count (mt_countD hu1) countD_ok (de_var (pv 2)) (da_cons de_bl da_nil)) de_int) (de_ix (ix_A hu0) ixD_ok (de_lst (da_cons de_str (da_cons de_str (da_cons de_str da_nil)))) (de_mt PySem.F.plainAttrs_list PySem.F.slot_list_index PySem.F.type_list_index (mt_indexD hu1) indexD_ok (de_var (pv 2)) (da_cons de_bl da_nil))) de_str)))))))
def B_l_is_due  : SS :=
    (sRet (eIf (bTest (eBin isND (eVar 1) (eC .non))) (eBin eqD (eBin ixD (eVar 0) (eC (.int 0))) (eC (.str "let"))) (eBin eqD (eVar 0) (eVar 1))))
theorem body_l_is_due (t : Txt K mg cl cd) : FnOk P w K mg base (L2.CX P w) (0 + 1) t.l_is_due.f t.l_is_due.fd ["told", "due"] (spD K T 2 (fnD 2 (B_l_is_due))) :=
  fn_D t.l_is_due.F sc_l_is_due fun cdv A outer s H E hr tk =>
    (dss_one (ds_ret (de_if (dt_cmp op_isN isND_ok (de_var (pv 1)) de_non) (de_cmp (op_eqD hr.units) eqD_ok (de_ix (ix_A (hu_of hr)) ixD_ok (de_var (pv 0)) de_int) de_str) (de_cmp (op_eqD hr.units) eqD_ok (de_var (pv 0)) (de_var (pv 1))))))
def B_l_refused_right (G_l_odd_prime : FS) (G_l_fact : FS) (G_l_some : FS) (G_l_draw : FS) (G_l_bent_fact : FS) (G_l_is_prime : FS) (G_l_is_due : FS) (G_l_word : Th → Th) (G_mix : FS) (G_l_is_text : FS) (G_l_is_fact : FS) (G_number_of : FS) (G_fact_text : FS) : SS :=
    (sSeq (sAsg (eTup (aCons (eCall 1 G_l_odd_prime (aCons (eVar 0) aNil)) (aCons (eCall 1 G_l_fact (aCons (eVar 0) aNil)) aNil))) (gT 2 (gsCons (gN 1) (gsCons (gN 2) gsNil))))
    (sSeq (sSet 3 (eCall 2 G_l_some (aCons (eVar 0) (aCons (eLst (aCons (eC (.str "")) (aCons (eC (.str "ab")) (aCons (eC (.str "a\nb")) (aCons (eC .non) (aCons (eC (.int 5)) (aCons (eLst (aCons (eC (.str "a")) aNil)) (aCons (eTup (aCons (eC (.str "a")) aNil)) aNil)))))))) aNil))))
    (sSeq (sSet 2 (eIf (bTest (eBin eqD (eCall 2 G_l_draw (aCons (eVar 0) (aCons (eC (.int 2)) aNil))) (eC (.int 0)))) (eCall 2 G_l_bent_fact (aCons (eVar 0) (aCons (eVar 2) aNil))) (eVar 2)))
    (sSeq (sSet 4 (eIf (bTru (eCall 1 G_l_is_prime (aCons (eVar 1) aNil))) (eC .non) (eC (.str "prime"))))
    (sSeq (sIf (bNot (bTru (eCall 2 G_l_is_due (aCons (eLam G_l_word (eCall 2 G_mix (aCons (eVar 1) (aCons (eVar 3) aNil)))) (aCons (eOr (eVar 4) (eIf (bTru (eCall 1 G_l_is_text (aCons (eVar 3) aNil))) (eC .non) (eC (.str "text")))) aNil))))) (sRet (eC (.bl false))) sSkip)
    (sSeq (sSet 5 (eIf (bTru (eCall 1 G_l_is_fact (aCons (eVar 2) aNil))) (eC .non) (eC (.str "fact"))))
    (sSeq (sIf (bNot (bTru (eCall 2 G_l_is_due (aCons (eLam G_l_word (eCall 2 G_number_of (aCons (eVar 1) (aCons (eVar 2) aNil)))) (aCons (eOr (eVar 4) (eVar 5)) aNil))))) (sRet (eC (.bl false))) sSkip)
    (sRet (eCall 2 G_l_is_due (aCons (eLam G_l_word (eCall 1 G_fact_text (aCons (eVar 2) aNil))) (aCons (eVar 5) aNil)))))))))))
set_option maxHeartbeats 4000000 in
theorem body_l_refused_right (t : Txt K mg cl cd) {P0 : Addr} (TB : LamX.TabB base mg (cd 0) P0) (hmT : (P0, (envOfC "_law_refused_right" (defScope st_l_refused_right) 0 0 .none).qual ++ "<lambda>") ∈ T) (hu : ∀ p ∈ T, p.1 = P0 → p.2 = (envOfC "_law_refused_right" (defScope st_l_refused_right) 0 0 .none).qual ++ "<lambda>") {G_l_odd_prime : FS} (h_l_odd_prime : FnOk P w K mg base (L2.CX P w) 3 t.l_odd_prime.f t.l_odd_prime.fd ["hand"] (spD K T 1 G_l_odd_prime)) {G_l_fact : FS} (h_l_fact : FnOk P w K mg base (L2.CX P w) 4 t.l_fact.f t.l_fact.fd ["hand"] (spD K T 1 G_l_fact)) {G_l_some : FS} (h_l_some : FnOk P w K mg base (L2.CX P w) 2 t.l_some.f t.l_some.fd ["hand", "things"] (spD K T 2 G_l_some)) {G_l_draw : FS} (h_l_draw : FnOk P w K mg base (L2.CX P w) 1 t.l_draw.f t.l_draw.fd ["hand", "many"] (spD K T 2 G_l_draw)) {G_l_bent_fact : FS} (h_l_bent_fact : FnOk P w K mg base (L2.CX P w) 4 t.l_bent_fact.f t.l_bent_fact.fd ["hand", "fact"] (spD K T 2 G_l_bent_fact)) {G_l_is_prime : FS} (h_l_is_prime : FnOk P w K mg base (L2.CX P w) 1 t.l_is_prime.f t.l_is_prime.fd ["thing"] (spD K T 1 G_l_is_prime)) {G_l_is_due : FS} (h_l_is_due : FnOk P w K mg base (L2.CX P w) 1 t.l_is_due.f t.l_is_due.fd ["told", "due"] (spD K T 2 G_l_is_due)) {G_l_word : Th → Th} (h_l_word : Gives_l_word P w base T t G_l_word) {G_mix : FS} (h_mix : FnOk P w K mg base (L2.CX P w) 4 t.mix.f t.mix.fd ["p", "text"] (spD K T 2 G_mix)) {G_l_is_text : FS} (h_l_is_text : FnOk P w K mg base (L2.CX P w) 1 t.l_is_text.f t.l_is_text.fd ["thing"] (spD K T 1 G_l_is_text)) {G_l_is_fact : FS} (h_l_is_fact : FnOk P w K mg base (L2.CX P w) 2 t.l_is_fact.f t.l_is_fact.fd ["thing"] (spD K T 1 G_l_is_fact)) {G_number_of : FS} (h_number_of : FnOk P w K mg base (L2.CX P w) 6 t.number_of.f t.number_of.fd ["p", "fact"] (spD K T 2 G_number_of)) {G_fact_text : FS} (h_fact_text : FnOk P w K mg base (L2.CX P w) 6 t.fact_text.f t.fact_text.fd ["fact"] (spD K T 1 G_fact_text)) : FnOk P w K mg base (L2.CX P w) (8 + 1) t.l_refused_right.f t.l_refused_right.fd ["hand"] (spD K T 1 (fnD 6 (B_l_refused_right G_l_odd_prime G_l_fact G_l_some G_l_draw G_l_bent_fact G_l_is_prime G_l_is_due G_l_word G_mix G_l_is_text G_l_is_fact G_number_of G_fact_text))) :=
  fn_DT t.l_refused_right sc_l_refused_right fun A outer s H E hr tk =>
    (dss_cons (ds_asg (de_tup (da_cons (de_call tk h_l_odd_prime (hr.mono (by omega)) t.l_odd_prime.m t.l_odd_prime.F.kp t.l_odd_prime.b (da_cons (de_var (pv 0)) da_nil)) (da_cons (de_call tk h_l_fact (hr.mono (by omega)) t.l_fact.m t.l_fact.F.kp t.l_fact.b (da_cons (de_var (pv 0)) da_nil)) da_nil))) (dg_tup rfl (dgs_cons (dg_name (i := 1) sc_l_refused_right.nd rfl (by first | exact Or.inl rfl | exact Or.inr rfl)) (dgs_cons (dg_name (i := 2) sc_l_refused_right.nd rfl (by first | exact Or.inl rfl | exact Or.inr rfl)) dgs_nil))))
    (dss_cons (ds_set (i := 3) sc_l_refused_right.nd rfl (by first | exact Or.inl rfl | exact Or.inr rfl) (de_call tk h_l_some (hr.mono (by omega)) t.l_some.m t.l_some.F.kp t.l_some.b (da_cons (de_var (pv 0)) (da_cons (de_lst (da_cons de_str (da_cons de_str (da_cons de_str (da_cons de_non (da_cons de_int (da_cons (de_lst (da_cons de_str da_nil)) (da_cons (de_tup (da_cons de_str da_nil)) da_nil)))))))) da_nil))))
    (dss_cons (ds_set (i := 2) sc_l_refused_right.nd rfl (by first | exact Or.inl rfl | exact Or.inr rfl) (de_if (dt_cmp (op_eqD hr.units) eqD_ok (de_call tk h_l_draw (hr.mono (by omega)) t.l_draw.m t.l_draw.F.kp t.l_draw.b (da_cons (de_var (pv 0)) (da_cons de_int da_nil))) de_int) (de_call tk h_l_bent_fact (hr.mono (by omega)) t.l_bent_fact.m t.l_bent_fact.F.kp t.l_bent_fact.b (da_cons (de_var (pv 0)) (da_cons (de_var (pv 2)) da_nil))) (de_var (pv 2))))
    (dss_cons (ds_set (i := 4) sc_l_refused_right.nd rfl (by first | exact Or.inl rfl | exact Or.inr rfl) (de_if (dt_tru (de_call tk h_l_is_prime (hr.mono (by omega)) t.l_is_prime.m t.l_is_prime.F.kp t.l_is_prime.b (da_cons (de_var (pv 1)) da_nil))) de_non de_str))
    (dss_cons (ds_if (dt_not (dt_tru (de_call tk h_l_is_due (hr.mono (by omega)) t.l_is_due.m t.l_is_due.F.kp t.l_is_due.b (da_cons (de_lamD t.l_word sc_l_word (k := 6) (hr.mono (by omega)) (fun cdv => h_l_word _ 6 cdv ⟨rfl, rfl, rfl, rfl, rfl⟩ (by omega) (hr.mono (by omega))) TB hmT hu (fun A outer s H E f c hr => (de_call (takes_of rfl rfl rfl rfl) h_mix (hr.mono (by omega)) t.mix.m t.mix.F.kp t.mix.b (da_cons (de_var (pv 1)) (da_cons (de_var (pv 3)) da_nil))))) (da_cons (de_or (de_var (pv 4)) (de_one (de_if (dt_tru (de_call tk h_l_is_text (hr.mono (by omega)) t.l_is_text.m t.l_is_text.F.kp t.l_is_text.b (da_cons (de_var (pv 3)) da_nil))) de_non de_str))) da_nil))))) (dss_one (ds_ret de_bl)) dss_nil)
    (dss_cons (ds_set (i := 5) sc_l_refused_right.nd rfl (by first | exact Or.inl rfl | exact Or.inr rfl) (de_if (dt_tru (de_call tk h_l_is_fact (hr.mono (by omega)) t.l_is_fact.m t.l_is_fact.F.kp t.l_is_fact.b (da_cons (de_var (pv 2)) da_nil))) de_non de_str))
    (dss_cons (ds_if (dt_not (dt_tru (de_call tk h_l_is_due (hr.mono (by omega)) t.l_is_due.m t.l_is_due.F.kp t.l_is_due.b (da_cons (de_lamD t.l_word sc_l_word (k := 6) (hr.mono (by omega)) (fun cdv => h_l_word _ 6 cdv ⟨rfl, rfl, rfl, rfl, rfl⟩ (by omega) (hr.mono (by omega))) TB hmT hu (fun A outer s H E f c hr => (de_call (takes_of rfl rfl rfl rfl) h_number_of (hr.mono (by omega)) t.number_of.m t.number_of.F.kp t.number_of.b (da_cons (de_var (pv 1)) (da_cons (de_var (pv 2)) da_nil))))) (da_cons (de_or (de_var (pv 4)) (de_one (de_var (pv 5)))) da_nil))))) (dss_one (ds_ret de_bl)) dss_nil)
    (dss_one (ds_ret (de_call tk h_l_is_due (hr.mono (by omega)) t.l_is_due.m t.l_is_due.F.kp t.l_is_due.b (da_cons (de_lamD t.l_word sc_l_word (k := 6) (hr.mono (by omega)) (fun cdv => h_l_word _ 6 cdv ⟨rfl, rfl, rfl, rfl, rfl⟩ (by omega) (hr.mono (by omega))) TB hmT hu (fun A outer s H E f c hr => (de_call (takes_of rfl rfl rfl rfl) h_fact_text (hr.mono (by omega)) t.fact_text.m t.fact_text.F.kp t.fact_text.b (da_cons (de_var (pv 2)) da_nil)))) (da_cons (de_var (pv 5)) da_nil))))))))))))
def B_law (G_l_hand : FS) (G_l_prime : FS) (G_l_text : FS) (G_l_fact : FS) (G_l_is : FS) (G_mix : FS) (G_l_mix : FS) (G_fact_text : FS) (G_l_fact_text : FS) (G_number_of : FS) (G_l_number : FS) (G_l_refused_right : FS) : SS :=
    (sSeq (sSet 1 (eCall 1 G_l_hand (aCons (eVar 0) aNil)))
    (sSeq (sFor (iRng1 (aCons (eC (.int 6)) aNil)) (gN 2) (sSeq (sPar3 3 4 5 (aCons (eCall 1 G_l_prime (aCons (eVar 1) aNil)) (aCons (eCall 1 G_l_text (aCons (eVar 1) aNil)) (aCons (eCall 1 G_l_fact (aCons (eVar 1) aNil)) aNil))))
    (sSeq (sIf (bOr (bNot (bTru (eCall 2 G_l_is (aCons (eCall 2 G_mix (aCons (eVar 3) (aCons (eVar 4) aNil))) (aCons (eCall 2 G_l_mix (aCons (eVar 3) (aCons (eVar 4) aNil))) aNil))))) (bNot (bTru (eCall 2 G_l_is (aCons (eCall 1 G_fact_text (aCons (eVar 5) aNil)) (aCons (eCall 1 G_l_fact_text (aCons (eVar 5) aNil)) aNil)))))) (sRet (eC (.bl false))) sSkip)
    (sIf (bOr (bNot (bTru (eCall 2 G_l_is (aCons (eCall 2 G_number_of (aCons (eVar 3) (aCons (eVar 5) aNil))) (aCons (eCall 2 G_l_number (aCons (eVar 3) (aCons (eVar 5) aNil))) aNil))))) (bNot (bTru (eCall 1 G_l_refused_right (aCons (eVar 1) aNil))))) (sRet (eC (.bl false))) sSkip))))
    (sRet (eC (.bl true)))))
theorem body_law (t : Txt K mg cl cd) {G_l_hand : FS} (h_l_hand : FnOk P w K mg base (L2.CX P w) 1 t.l_hand.f t.l_hand.fd ["script"] (spD K T 1 G_l_hand)) {G_l_prime : FS} (h_l_prime : FnOk P w K mg base (L2.CX P w) 3 t.l_prime.f t.l_prime.fd ["hand"] (spD K T 1 G_l_prime)) {G_l_text : FS} (h_l_text : FnOk P w K mg base (L2.CX P w) 3 t.l_text.f t.l_text.fd ["hand"] (spD K T 1 G_l_text)) {G_l_fact : FS} (h_l_fact : FnOk P w K mg base (L2.CX P w) 4 t.l_fact.f t.l_fact.fd ["hand"] (spD K T 1 G_l_fact)) {G_l_is : FS} (h_l_is : FnOk P w K mg base (L2.CX P w) 4 t.l_is.f t.l_is.fd ["told", "due"] (spD K T 2 G_l_is)) {G_mix : FS} (h_mix : FnOk P w K mg base (L2.CX P w) 4 t.mix.f t.mix.fd ["p", "text"] (spD K T 2 G_mix)) {G_l_mix : FS} (h_l_mix : FnOk P w K mg base (L2.CX P w) 1 t.l_mix.f t.l_mix.fd ["p", "text"] (spD K T 2 G_l_mix)) {G_fact_text : FS} (h_fact_text : FnOk P w K mg base (L2.CX P w) 6 t.fact_text.f t.fact_text.fd ["fact"] (spD K T 1 G_fact_text)) {G_l_fact_text : FS} (h_l_fact_text : FnOk P w K mg base (L2.CX P w) 2 t.l_fact_text.f t.l_fact_text.fd ["fact"] (spD K T 1 G_l_fact_text)) {G_number_of : FS} (h_number_of : FnOk P w K mg base (L2.CX P w) 6 t.number_of.f t.number_of.fd ["p", "fact"] (spD K T 2 G_number_of)) {G_l_number : FS} (h_l_number : FnOk P w K mg base (L2.CX P w) 3 t.l_number.f t.l_number.fd ["p", "fact"] (spD K T 2 G_l_number)) {G_l_refused_right : FS} (h_l_refused_right : FnOk P w K mg base (L2.CX P w) 9 t.l_refused_right.f t.l_refused_right.fd ["hand"] (spD K T 1 G_l_refused_right)) : FnOk P w K mg base (L2.CX P w) (9 + 1) t.law.f t.law.fd ["script"] (spD K T 1 (fnD 6 (B_law G_l_hand G_l_prime G_l_text G_l_fact G_l_is G_mix G_l_mix G_fact_text G_l_fact_text G_number_of G_l_number G_l_refused_right))) :=
  fn_D t.law.F sc_law fun cdv A outer s H E hr tk =>
    (dss_cons (ds_set (i := 1) sc_law.nd rfl (by first | exact Or.inl rfl | exact Or.inr rfl) (de_call tk h_l_hand (hr.mono (by omega)) t.l_hand.m t.l_hand.F.kp t.l_hand.b (da_cons (de_var (pv 0)) da_nil)))
    (dss_cons (ds_for (passes_of rfl) rfl (di_range1 t.z_range (da_cons de_int da_nil)) (dg_name (i := 2) sc_law.nd rfl (by first | exact Or.inl rfl | exact Or.inr rfl)) (dss_cons (ds_par3 (i := 3) (j := 4) (l := 5) rfl sc_law.nd rfl rfl rfl (by decide) (by decide) (by decide) rfl rfl rfl (da_cons (de_call tk h_l_prime (hr.mono (by omega)) t.l_prime.m t.l_prime.F.kp t.l_prime.b (da_cons (de_var (pv 1)) da_nil)) (da_cons (de_call tk h_l_text (hr.mono (by omega)) t.l_text.m t.l_text.F.kp t.l_text.b (da_cons (de_var (pv 1)) da_nil)) (da_cons (de_call tk h_l_fact (hr.mono (by omega)) t.l_fact.m t.l_fact.F.kp t.l_fact.b (da_cons (de_var (pv 1)) da_nil)) da_nil))) (by rfl))
    (dss_cons (ds_if (DW.dt (dw_or (dt_not (dt_tru (de_call tk h_l_is (hr.mono (by omega)) t.l_is.m t.l_is.F.kp t.l_is.b (da_cons (de_call tk h_mix (hr.mono (by omega)) t.mix.m t.mix.F.kp t.mix.b (da_cons (de_var (pv 3)) (da_cons (de_var (pv 4)) da_nil))) (da_cons (de_call tk h_l_mix (hr.mono (by omega)) t.l_mix.m t.l_mix.F.kp t.l_mix.b (da_cons (de_var (pv 3)) (da_cons (de_var (pv 4)) da_nil))) da_nil))))) (dw_or1 (dt_not (dt_tru (de_call tk h_l_is (hr.mono (by omega)) t.l_is.m t.l_is.F.kp t.l_is.b (da_cons (de_call tk h_fact_text (hr.mono (by omega)) t.fact_text.m t.fact_text.F.kp t.fact_text.b (da_cons (de_var (pv 5)) da_nil)) (da_cons (de_call tk h_l_fact_text (hr.mono (by omega)) t.l_fact_text.m t.l_fact_text.F.kp t.l_fact_text.b (da_cons (de_var (pv 5)) da_nil)) da_nil)))))))) (dss_one (ds_ret de_bl)) dss_nil)
    (dss_one (ds_if (DW.dt (dw_or (dt_not (dt_tru (de_call tk h_l_is (hr.mono (by omega)) t.l_is.m t.l_is.F.kp t.l_is.b (da_cons (de_call tk h_number_of (hr.mono (by omega)) t.number_of.m t.number_of.F.kp t.number_of.b (da_cons (de_var (pv 3)) (da_cons (de_var (pv 5)) da_nil))) (da_cons (de_call tk h_l_number (hr.mono (by omega)) t.l_number.m t.l_number.F.kp t.l_number.b (da_cons (de_var (pv 3)) (da_cons (de_var (pv 5)) da_nil))) da_nil))))) (dw_or1 (dt_not (dt_tru (de_call tk h_l_refused_right (hr.mono (by omega)) t.l_refused_right.m t.l_refused_right.F.kp t.l_refused_right.b (da_cons (de_var (pv 1)) da_nil))))))) (dss_one (ds_ret de_bl)) dss_nil)))))
    (dss_one (ds_ret de_bl))))
end
/-! the defs, one upon the other -/
def G_is_integer : FS := fnD 1 B_is_integer
theorem ok_is_integer {P : Program} {w : World} {K : PySem.W.Frag} {mg : Str → Option Value} {cl : Str → Addr} {cd : Nat → Addr} {base : Heap} {T : List (Addr × Str)} (t : Txt K mg cl cd) : FnOk P w K mg base (L2.CX P w) 1 t.is_integer.f t.is_integer.fd ["thing"] (spD K T 1 G_is_integer) := body_is_integer t
def G_is_sized : FS := fnD 3 B_is_sized
theorem ok_is_sized {P : Program} {w : World} {K : PySem.W.Frag} {mg : Str → Option Value} {cl : Str → Addr} {cd : Nat → Addr} {base : Heap} {T : List (Addr × Str)} (t : Txt K mg cl cd) : FnOk P w K mg base (L2.CX P w) 1 t.is_sized.f t.is_sized.fd ["thing", "least", "most"] (spD K T 3 G_is_sized) := body_is_sized t
def G_is_word : FS := fnD 2 B_is_word
theorem ok_is_word {P : Program} {w : World} {K : PySem.W.Frag} {mg : Str → Option Value} {cl : Str → Addr} {cd : Nat → Addr} {base : Heap} {T : List (Addr × Str)} (t : Txt K mg cl cd) : FnOk P w K mg base (L2.CX P w) 1 t.is_word.f t.is_word.fd ["thing"] (spD K T 1 G_is_word) := body_is_word t
def G_is_name : FS := fnD 2 B_is_name
theorem ok_is_name {P : Program} {w : World} {K : PySem.W.Frag} {mg : Str → Option Value} {cl : Str → Addr} {cd : Nat → Addr} {base : Heap} {T : List (Addr × Str)} (t : Txt K mg cl cd) : FnOk P w K mg base (L2.CX P w) 1 t.is_name.f t.is_name.fd ["thing"] (spD K T 1 G_is_name) := body_is_name t
def G_raw_mix : FS := fnD 5 B_raw_mix
theorem ok_raw_mix {P : Program} {w : World} {K : PySem.W.Frag} {mg : Str → Option Value} {cl : Str → Addr} {cd : Nat → Addr} {base : Heap} {T : List (Addr × Str)} (t : Txt K mg cl cd) : FnOk P w K mg base (L2.CX P w) 1 t.raw_mix.f t.raw_mix.fd ["p", "text"] (spD K T 2 G_raw_mix) := body_raw_mix t
def G_is_text : FS := fnD 2 B_is_text
theorem ok_is_text {P : Program} {w : World} {K : PySem.W.Frag} {mg : Str → Option Value} {cl : Str → Addr} {cd : Nat → Addr} {base : Heap} {T : List (Addr × Str)} (t : Txt K mg cl cd) : FnOk P w K mg base (L2.CX P w) 1 t.is_text.f t.is_text.fd ["thing"] (spD K T 1 G_is_text) := body_is_text t
def G_l_hand : FS := fnD 3 B_l_hand
theorem ok_l_hand {P : Program} {w : World} {K : PySem.W.Frag} {mg : Str → Option Value} {cl : Str → Addr} {cd : Nat → Addr} {base : Heap} {T : List (Addr × Str)} (t : Txt K mg cl cd) : FnOk P w K mg base (L2.CX P w) 1 t.l_hand.f t.l_hand.fd ["script"] (spD K T 1 G_l_hand) := body_l_hand t
def G_l_draw : FS := fnD 5 B_l_draw
theorem ok_l_draw {P : Program} {w : World} {K : PySem.W.Frag} {mg : Str → Option Value} {cl : Str → Addr} {cd : Nat → Addr} {base : Heap} {T : List (Addr × Str)} (t : Txt K mg cl cd) : FnOk P w K mg base (L2.CX P w) 1 t.l_draw.f t.l_draw.fd ["hand", "many"] (spD K T 2 G_l_draw) := body_l_draw t
def G_l_mix : FS := fnD 5 B_l_mix
theorem ok_l_mix {P : Program} {w : World} {K : PySem.W.Frag} {mg : Str → Option Value} {cl : Str → Addr} {cd : Nat → Addr} {base : Heap} {T : List (Addr × Str)} (t : Txt K mg cl cd) : FnOk P w K mg base (L2.CX P w) 1 t.l_mix.f t.l_mix.fd ["p", "text"] (spD K T 2 G_l_mix) := body_l_mix t
def G_l_worth_text : FS := fnD 1 B_l_worth_text
theorem ok_l_worth_text {P : Program} {w : World} {K : PySem.W.Frag} {mg : Str → Option Value} {cl : Str → Addr} {cd : Nat → Addr} {base : Heap} {T : List (Addr × Str)} (t : Txt K mg cl cd) : FnOk P w K mg base (L2.CX P w) 1 t.l_worth_text.f t.l_worth_text.fd ["worth"] (spD K T 1 G_l_worth_text) := body_l_worth_text t
def G_l_is_prime : FS := fnD 1 B_l_is_prime
theorem ok_l_is_prime {P : Program} {w : World} {K : PySem.W.Frag} {mg : Str → Option Value} {cl : Str → Addr} {cd : Nat → Addr} {base : Heap} {T : List (Addr × Str)} (t : Txt K mg cl cd) : FnOk P w K mg base (L2.CX P w) 1 t.l_is_prime.f t.l_is_prime.fd ["thing"] (spD K T 1 G_l_is_prime) := body_l_is_prime t
def G_l_is_text : FS := fnD 2 B_l_is_text
theorem ok_l_is_text {P : Program} {w : World} {K : PySem.W.Frag} {mg : Str → Option Value} {cl : Str → Addr} {cd : Nat → Addr} {base : Heap} {T : List (Addr × Str)} (t : Txt K mg cl cd) : FnOk P w K mg base (L2.CX P w) 1 t.l_is_text.f t.l_is_text.fd ["thing"] (spD K T 1 G_l_is_text) := body_l_is_text t
def G_l_is_worth : FS := fnD 2 B_l_is_worth
theorem ok_l_is_worth {P : Program} {w : World} {K : PySem.W.Frag} {mg : Str → Option Value} {cl : Str → Addr} {cd : Nat → Addr} {base : Heap} {T : List (Addr × Str)} (t : Txt K mg cl cd) : FnOk P w K mg base (L2.CX P w) 1 t.l_is_worth.f t.l_is_worth.fd ["thing"] (spD K T 1 G_l_is_worth) := body_l_is_worth t
def G_l_is_name : FS := fnD 2 B_l_is_name
theorem ok_l_is_name {P : Program} {w : World} {K : PySem.W.Frag} {mg : Str → Option Value} {cl : Str → Addr} {cd : Nat → Addr} {base : Heap} {T : List (Addr × Str)} (t : Txt K mg cl cd) : FnOk P w K mg base (L2.CX P w) 1 t.l_is_name.f t.l_is_name.fd ["thing"] (spD K T 1 G_l_is_name) := body_l_is_name t
noncomputable def G_l_word (K : PySem.W.Frag) (cl : Str → Addr) : Th → Th := fun th m => lamG fun L => fnD 3 (B_l_word K cl L th) [L] m
theorem ok_l_word {P : Program} {w : World} {K : PySem.W.Frag} {mg : Str → Option Value} {cl : Str → Addr} {cd : Nat → Addr} {base : Heap} {T : List (Addr × Str)} (t : Txt K mg cl cd) : Gives_l_word P w base T t (G_l_word K cl) :=
  body_l_word t fun L th m => lamG_at _ L
def G_l_is_due : FS := fnD 2 B_l_is_due
theorem ok_l_is_due {P : Program} {w : World} {K : PySem.W.Frag} {mg : Str → Option Value} {cl : Str → Addr} {cd : Nat → Addr} {base : Heap} {T : List (Addr × Str)} (t : Txt K mg cl cd) : FnOk P w K mg base (L2.CX P w) 1 t.l_is_due.f t.l_is_due.fd ["told", "due"] (spD K T 2 G_l_is_due) := body_l_is_due t
def G_is_within : FS := fnD 3 (B_is_within G_is_integer)
theorem ok_is_within {P : Program} {w : World} {K : PySem.W.Frag} {mg : Str → Option Value} {cl : Str → Addr} {cd : Nat → Addr} {base : Heap} {T : List (Addr × Str)} (t : Txt K mg cl cd) : FnOk P w K mg base (L2.CX P w) 2 t.is_within.f t.is_within.fd ["thing", "least", "most"] (spD K T 3 G_is_within) := body_is_within t (ok_is_integer t)
def G_is_cell : FS := fnD 1 (B_is_cell G_is_integer G_is_word)
theorem ok_is_cell {P : Program} {w : World} {K : PySem.W.Frag} {mg : Str → Option Value} {cl : Str → Addr} {cd : Nat → Addr} {base : Heap} {T : List (Addr × Str)} (t : Txt K mg cl cd) : FnOk P w K mg base (L2.CX P w) 2 t.is_cell.f t.is_cell.fd ["thing"] (spD K T 1 G_is_cell) := body_is_cell t (ok_is_integer t) (ok_is_word t)
def G_worth_text : FS := fnD 2 (B_worth_text G_is_integer)
theorem ok_worth_text {P : Program} {w : World} {K : PySem.W.Frag} {mg : Str → Option Value} {cl : Str → Addr} {cd : Nat → Addr} {base : Heap} {T : List (Addr × Str)} (t : Txt K mg cl cd) : FnOk P w K mg base (L2.CX P w) 2 t.worth_text.f t.worth_text.fd ["worth"] (spD K T 1 G_worth_text) := body_worth_text t (ok_is_integer t)
def G_l_some : FS := fnD 2 (B_l_some G_l_draw)
theorem ok_l_some {P : Program} {w : World} {K : PySem.W.Frag} {mg : Str → Option Value} {cl : Str → Addr} {cd : Nat → Addr} {base : Heap} {T : List (Addr × Str)} (t : Txt K mg cl cd) : FnOk P w K mg base (L2.CX P w) 2 t.l_some.f t.l_some.fd ["hand", "things"] (spD K T 2 G_l_some) := body_l_some t (ok_l_draw t)
def G_l_fact_text : FS := fnD 2 (B_l_fact_text G_l_worth_text)
theorem ok_l_fact_text {P : Program} {w : World} {K : PySem.W.Frag} {mg : Str → Option Value} {cl : Str → Addr} {cd : Nat → Addr} {base : Heap} {T : List (Addr × Str)} (t : Txt K mg cl cd) : FnOk P w K mg base (L2.CX P w) 2 t.l_fact_text.f t.l_fact_text.fd ["fact"] (spD K T 1 G_l_fact_text) := body_l_fact_text t (ok_l_worth_text t)
def G_l_deep : FS := fnD 3 (B_l_deep G_l_draw)
theorem ok_l_deep {P : Program} {w : World} {K : PySem.W.Frag} {mg : Str → Option Value} {cl : Str → Addr} {cd : Nat → Addr} {base : Heap} {T : List (Addr × Str)} (t : Txt K mg cl cd) : FnOk P w K mg base (L2.CX P w) 2 t.l_deep.f t.l_deep.fd ["hand"] (spD K T 1 G_l_deep) := body_l_deep t (ok_l_draw t)
def G_l_is_fact : FS := fnD 2 (B_l_is_fact G_l_is_name G_l_is_text G_l_is_worth)
theorem ok_l_is_fact {P : Program} {w : World} {K : PySem.W.Frag} {mg : Str → Option Value} {cl : Str → Addr} {cd : Nat → Addr} {base : Heap} {T : List (Addr × Str)} (t : Txt K mg cl cd) : FnOk P w K mg base (L2.CX P w) 2 t.l_is_fact.f t.l_is_fact.fd ["thing"] (spD K T 1 G_l_is_fact) := body_l_is_fact t (ok_l_is_name t) (ok_l_is_text t) (ok_l_is_worth t)
def G_is_row_of_cells : FS := fnD 2 (B_is_row_of_cells G_is_sized G_is_cell)
theorem ok_is_row_of_cells {P : Program} {w : World} {K : PySem.W.Frag} {mg : Str → Option Value} {cl : Str → Addr} {cd : Nat → Addr} {base : Heap} {T : List (Addr × Str)} (t : Txt K mg cl cd) : FnOk P w K mg base (L2.CX P w) 3 t.is_row_of_cells.f t.is_row_of_cells.fd ["thing"] (spD K T 1 G_is_row_of_cells) := body_is_row_of_cells t (ok_is_sized t) (ok_is_cell t)
def G_check_prime (cl : Str → Addr) : FS := fnD 1 (B_check_prime cl G_is_within)
theorem ok_check_prime {P : Program} {w : World} {K : PySem.W.Frag} {mg : Str → Option Value} {cl : Str → Addr} {cd : Nat → Addr} {base : Heap} {T : List (Addr × Str)} (t : Txt K mg cl cd) : FnOk P w K mg base (L2.CX P w) 3 t.check_prime.f t.check_prime.fd ["p"] (spD K T 1 (G_check_prime cl)) := body_check_prime t (ok_is_within t)
def G_raw_fact_text : FS := fnD 2 (B_raw_fact_text G_worth_text)
theorem ok_raw_fact_text {P : Program} {w : World} {K : PySem.W.Frag} {mg : Str → Option Value} {cl : Str → Addr} {cd : Nat → Addr} {base : Heap} {T : List (Addr × Str)} (t : Txt K mg cl cd) : FnOk P w K mg base (L2.CX P w) 3 t.raw_fact_text.f t.raw_fact_text.fd ["fact"] (spD K T 1 G_raw_fact_text) := body_raw_fact_text t (ok_worth_text t)
def G_l_number : FS := fnD 2 (B_l_number G_l_mix G_l_fact_text)
theorem ok_l_number {P : Program} {w : World} {K : PySem.W.Frag} {mg : Str → Option Value} {cl : Str → Addr} {cd : Nat → Addr} {base : Heap} {T : List (Addr × Str)} (t : Txt K mg cl cd) : FnOk P w K mg base (L2.CX P w) 3 t.l_number.f t.l_number.fd ["p", "fact"] (spD K T 2 G_l_number) := body_l_number t (ok_l_mix t) (ok_l_fact_text t)
def G_l_odd : FS := fnD 1 (B_l_odd G_l_some G_l_deep)
theorem ok_l_odd {P : Program} {w : World} {K : PySem.W.Frag} {mg : Str → Option Value} {cl : Str → Addr} {cd : Nat → Addr} {base : Heap} {T : List (Addr × Str)} (t : Txt K mg cl cd) : FnOk P w K mg base (L2.CX P w) 3 t.l_odd.f t.l_odd.fd ["hand"] (spD K T 1 G_l_odd) := body_l_odd t (ok_l_some t) (ok_l_deep t)
def G_l_odd_prime : FS := fnD 3 (B_l_odd_prime G_l_some)
theorem ok_l_odd_prime {P : Program} {w : World} {K : PySem.W.Frag} {mg : Str → Option Value} {cl : Str → Addr} {cd : Nat → Addr} {base : Heap} {T : List (Addr × Str)} (t : Txt K mg cl cd) : FnOk P w K mg base (L2.CX P w) 3 t.l_odd_prime.f t.l_odd_prime.fd ["hand"] (spD K T 1 G_l_odd_prime) := body_l_odd_prime t (ok_l_some t)
def G_l_prime : FS := fnD 1 (B_l_prime G_l_some)
theorem ok_l_prime {P : Program} {w : World} {K : PySem.W.Frag} {mg : Str → Option Value} {cl : Str → Addr} {cd : Nat → Addr} {base : Heap} {T : List (Addr × Str)} (t : Txt K mg cl cd) : FnOk P w K mg base (L2.CX P w) 3 t.l_prime.f t.l_prime.fd ["hand"] (spD K T 1 G_l_prime) := body_l_prime t (ok_l_some t)
def G_l_worth : FS := fnD 2 (B_l_worth G_l_draw G_l_some)
theorem ok_l_worth {P : Program} {w : World} {K : PySem.W.Frag} {mg : Str → Option Value} {cl : Str → Addr} {cd : Nat → Addr} {base : Heap} {T : List (Addr × Str)} (t : Txt K mg cl cd) : FnOk P w K mg base (L2.CX P w) 3 t.l_worth.f t.l_worth.fd ["hand"] (spD K T 1 G_l_worth) := body_l_worth t (ok_l_draw t) (ok_l_some t)
def G_l_text : FS := fnD 4 (B_l_text G_l_draw G_l_some)
theorem ok_l_text {P : Program} {w : World} {K : PySem.W.Frag} {mg : Str → Option Value} {cl : Str → Addr} {cd : Nat → Addr} {base : Heap} {T : List (Addr × Str)} (t : Txt K mg cl cd) : FnOk P w K mg base (L2.CX P w) 3 t.l_text.f t.l_text.fd ["hand"] (spD K T 1 G_l_text) := body_l_text t (ok_l_draw t) (ok_l_some t)
def G_mix (cl : Str → Addr) : FS := fnD 2 (B_mix cl (G_check_prime cl) G_is_text G_raw_mix)
theorem ok_mix {P : Program} {w : World} {K : PySem.W.Frag} {mg : Str → Option Value} {cl : Str → Addr} {cd : Nat → Addr} {base : Heap} {T : List (Addr × Str)} (t : Txt K mg cl cd) : FnOk P w K mg base (L2.CX P w) 4 t.mix.f t.mix.fd ["p", "text"] (spD K T 2 (G_mix cl)) := body_mix t (ok_check_prime t) (ok_is_text t) (ok_raw_mix t)
def G_is_fact : FS := fnD 1 (B_is_fact G_is_sized G_is_name G_is_text G_is_row_of_cells)
theorem ok_is_fact {P : Program} {w : World} {K : PySem.W.Frag} {mg : Str → Option Value} {cl : Str → Addr} {cd : Nat → Addr} {base : Heap} {T : List (Addr × Str)} (t : Txt K mg cl cd) : FnOk P w K mg base (L2.CX P w) 4 t.is_fact.f t.is_fact.fd ["thing"] (spD K T 1 G_is_fact) := body_is_fact t (ok_is_sized t) (ok_is_name t) (ok_is_text t) (ok_is_row_of_cells t)
def G_raw_number_of : FS := fnD 2 (B_raw_number_of G_raw_mix G_raw_fact_text)
theorem ok_raw_number_of {P : Program} {w : World} {K : PySem.W.Frag} {mg : Str → Option Value} {cl : Str → Addr} {cd : Nat → Addr} {base : Heap} {T : List (Addr × Str)} (t : Txt K mg cl cd) : FnOk P w K mg base (L2.CX P w) 4 t.raw_number_of.f t.raw_number_of.fd ["p", "fact"] (spD K T 2 G_raw_number_of) := body_raw_number_of t (ok_raw_mix t) (ok_raw_fact_text t)
def G_l_bent_fact : FS := fnD 7 (B_l_bent_fact G_l_some G_l_odd G_l_draw)
theorem ok_l_bent_fact {P : Program} {w : World} {K : PySem.W.Frag} {mg : Str → Option Value} {cl : Str → Addr} {cd : Nat → Addr} {base : Heap} {T : List (Addr × Str)} (t : Txt K mg cl cd) : FnOk P w K mg base (L2.CX P w) 4 t.l_bent_fact.f t.l_bent_fact.fd ["hand", "fact"] (spD K T 2 G_l_bent_fact) := body_l_bent_fact t (ok_l_some t) (ok_l_odd t) (ok_l_draw t)
def G_l_fact : FS := fnD 5 (B_l_fact G_l_draw G_l_some G_l_worth)
theorem ok_l_fact {P : Program} {w : World} {K : PySem.W.Frag} {mg : Str → Option Value} {cl : Str → Addr} {cd : Nat → Addr} {base : Heap} {T : List (Addr × Str)} (t : Txt K mg cl cd) : FnOk P w K mg base (L2.CX P w) 4 t.l_fact.f t.l_fact.fd ["hand"] (spD K T 1 G_l_fact) := body_l_fact t (ok_l_draw t) (ok_l_some t) (ok_l_worth t)
def G_l_is : Nat → FS
  | 0 => fun _ _ => .no
  | d + 1 => fnD 4 (B_l_is (G_l_is d))
theorem okR_l_is {P : Program} {w : World} {K : PySem.W.Frag} {mg : Str → Option Value} {cl : Str → Addr} {cd : Nat → Addr} {base : Heap} {T : List (Addr × Str)} (t : Txt K mg cl cd) : ∀ d : Nat, FnOk P w K mg base (L2.CX P w) (0 + d) t.l_is.f t.l_is.fd ["told", "due"] (spD K T 2 (G_l_is d))
  | 0 => fn_no t.l_is.F sc_l_is
  | d + 1 => body_l_is t (by omega) (okR_l_is t d)
theorem ok_l_is {P : Program} {w : World} {K : PySem.W.Frag} {mg : Str → Option Value} {cl : Str → Addr} {cd : Nat → Addr} {base : Heap} {T : List (Addr × Str)} (t : Txt K mg cl cd) : FnOk P w K mg base (L2.CX P w) 4 t.l_is.f t.l_is.fd ["told", "due"] (spD K T 2 (G_l_is 4)) := okR_l_is t 4
def G_check_fact (cl : Str → Addr) : FS := fnD 1 (B_check_fact cl G_is_fact)
theorem ok_check_fact {P : Program} {w : World} {K : PySem.W.Frag} {mg : Str → Option Value} {cl : Str → Addr} {cd : Nat → Addr} {base : Heap} {T : List (Addr × Str)} (t : Txt K mg cl cd) : FnOk P w K mg base (L2.CX P w) 5 t.check_fact.f t.check_fact.fd ["fact"] (spD K T 1 (G_check_fact cl)) := body_check_fact t (ok_is_fact t)
def G_fact_text (cl : Str → Addr) : FS := fnD 1 (B_fact_text (G_check_fact cl) G_raw_fact_text)
theorem ok_fact_text {P : Program} {w : World} {K : PySem.W.Frag} {mg : Str → Option Value} {cl : Str → Addr} {cd : Nat → Addr} {base : Heap} {T : List (Addr × Str)} (t : Txt K mg cl cd) : FnOk P w K mg base (L2.CX P w) 6 t.fact_text.f t.fact_text.fd ["fact"] (spD K T 1 (G_fact_text cl)) := body_fact_text t (ok_check_fact t) (ok_raw_fact_text t)
def G_number_of (cl : Str → Addr) : FS := fnD 2 (B_number_of (G_check_prime cl) (G_check_fact cl) G_raw_number_of)
theorem ok_number_of {P : Program} {w : World} {K : PySem.W.Frag} {mg : Str → Option Value} {cl : Str → Addr} {cd : Nat → Addr} {base : Heap} {T : List (Addr × Str)} (t : Txt K mg cl cd) : FnOk P w K mg base (L2.CX P w) 6 t.number_of.f t.number_of.fd ["p", "fact"] (spD K T 2 (G_number_of cl)) := body_number_of t (ok_check_prime t) (ok_check_fact t) (ok_raw_number_of t)
noncomputable def G_l_refused_right (K : PySem.W.Frag) (cl : Str → Addr) : FS := fnD 6 (B_l_refused_right G_l_odd_prime G_l_fact G_l_some G_l_draw G_l_bent_fact G_l_is_prime G_l_is_due (G_l_word K cl) (G_mix cl) G_l_is_text G_l_is_fact (G_number_of cl) (G_fact_text cl))
theorem ok_l_refused_right {P : Program} {w : World} {K : PySem.W.Frag} {mg : Str → Option Value} {cl : Str → Addr} {cd : Nat → Addr} {base : Heap} {T : List (Addr × Str)} (t : Txt K mg cl cd) {pt : Nat → Addr} (M : Mks base mg cd pt T) : FnOk P w K mg base (L2.CX P w) 9 t.l_refused_right.f t.l_refused_right.fd ["hand"] (spD K T 1 (G_l_refused_right K cl)) := body_l_refused_right t M.m0.1 M.m0.2.1 M.m0.2.2 (ok_l_odd_prime t) (ok_l_fact t) (ok_l_some t) (ok_l_draw t) (ok_l_bent_fact t) (ok_l_is_prime t) (ok_l_is_due t) (ok_l_word t) (ok_mix t) (ok_l_is_text t) (ok_l_is_fact t) (ok_number_of t) (ok_fact_text t)
noncomputable def G_law (K : PySem.W.Frag) (cl : Str → Addr) : FS := fnD 6 (B_law G_l_hand G_l_prime G_l_text G_l_fact (G_l_is 4) (G_mix cl) G_l_mix (G_fact_text cl) G_l_fact_text (G_number_of cl) G_l_number (G_l_refused_right K cl))
theorem ok_law {P : Program} {w : World} {K : PySem.W.Frag} {mg : Str → Option Value} {cl : Str → Addr} {cd : Nat → Addr} {base : Heap} {T : List (Addr × Str)} (t : Txt K mg cl cd) {pt : Nat → Addr} (M : Mks base mg cd pt T) : FnOk P w K mg base (L2.CX P w) 10 t.law.f t.law.fd ["script"] (spD K T 1 (G_law K cl)) := body_law t (ok_l_hand t) (ok_l_prime t) (ok_l_text t) (ok_l_fact t) (ok_l_is t) (ok_mix t) (ok_l_mix t) (ok_fact_text t) (ok_l_fact_text t) (ok_number_of t) (ok_l_number t) (ok_l_refused_right t M)
end K27


namespace K27
open PySem PySem.Spec L2 DL
open PyProof.Rows hiding St pairD intD cutD
theorem draws : Draws G_l_draw := draws_of (a1 := 48271) (b1 := 31) (m1 := 2147483647) (a2 := 6151) (a3 := 40692) (m2 := 2147483399) (d1 := 1223) (e1 := 52027) (m3 := 2147483629) (d2 := 2671) (e2 := 69621) (m4 := 2147483647) (d3 := 32) (by decide)
theorem somes : Somes G_l_some := some_ok draws
section
variable {d : D} {m : List C}
/-! ### kinds of things -/
theorem is_integer_eq (h : okv d = true) : G_is_integer [d] m = .ok (.bl (isIntB d)) m := by
  cases d <;> first | rfl | (simp [okv] at h)
theorem is_within_eq {lo hi : Int} (h : okv d = true) : G_is_within [d, .int lo, .int hi] m = .ok (.bl (inB2 lo hi d)) m := by
  have e : isIntB d = false → inB2 lo hi d = false := fun e => by cases d <;> first | rfl | cases e
  refine (fn_ret (and_bl (b := isIntB d) (b2 := inB2 lo hi d) (ev_call1 rfl (is_integer_eq h)) fun hi' => ?_)).trans ?_
  · obtain ⟨i, rfl⟩ := isInt_of hi'
    exact ev_chain rfl rfl rfl rfl rfl
  · cases hb : isIntB d
    · rw [e hb]; rfl
    · rfl
theorem is_sized_eq {lo hi : Int} (h : okv d = true) : G_is_sized [d, .int lo, .int hi] m = .ok (.bl (szB lo hi d)) m := by
  have e : isTupB d = false → szB lo hi d = false := fun e => by cases d <;> first | rfl | cases e
  refine (fn_ret (and_bl (b := isTupB d) (b2 := szB lo hi d) (ev_ar2 rfl rfl (isi_tup h)) fun hi' => ?_)).trans ?_
  · obtain ⟨l, rfl⟩ := isTup_of hi'
    exact ev_chain rfl (ev_ar1 rfl rfl) rfl rfl rfl
  · cases hb : isTupB d
    · rw [e hb]; rfl
    · rfl
theorem is_word_eq (h : okv d = true) : G_is_word [d] m = .ok (.bl (wordB d)) m := by
  have e : isStrB d = false → wordB d = false := fun e => by cases d <;> first | rfl | cases e
  refine (fn_ret (and_bl (b := isStrB d) (b2 := wordB d) (ev_ar2 rfl rfl (isi_str h)) fun hi' => ?_)).trans ?_
  · obtain ⟨x, rfl⟩ := isStr_of hi'
    obtain ⟨h1, h2⟩ := okv_str h
    exact and_bl (b := decide (x.length ≤ 20)) (ev_bin (ev_ar1 rfl (by rw [lenD_str, if_pos (fits_le h2)])) rfl (by rw [cmp_le, decide_eq_decide.mpr (show ((x.length : Int) ≤ 20) ↔ x.length ≤ 20 by omega)])) fun _ => all_signs lineC (iSeq_str rfl) (fun c _ => line_sign rfl) h2
  · cases hb : isStrB d
    · rw [e hb]; rfl
    · rfl
theorem is_cell_eq (h : okv d = true) : G_is_cell [d] m = .ok (.bl (cellB d)) m := fn_ret (or_bl (ev_call1 rfl (is_integer_eq h)) (ev_call1 rfl (is_word_eq h)))
theorem is_text_eq (h : okv d = true) : G_is_text [d] m = .ok (.bl (textB d)) m := by
  have e : isStrB d = false → textB d = false := fun e => by cases d <;> first | rfl | cases e
  refine (fn_ret (and_bl (b := isStrB d) (b2 := textB d) (ev_ar2 rfl rfl (isi_str h)) fun hi' => ?_)).trans ?_
  · obtain ⟨x, rfl⟩ := isStr_of hi'
    obtain ⟨h1, h2⟩ := okv_str h
    exact all_signs textC (iSeq_str rfl) (fun c hc => or_bl (line_sign rfl) (ev_bin rfl rfl (eq_lf (strOk_mem h1 hc)))) h2
  · cases hb : isStrB d
    · rw [e hb]; rfl
    · rfl
theorem is_name_eq (h : okv d = true) : G_is_name [d] m = .ok (.bl (nameB d)) m := by
  refine fn_rt ?_
  cases hs : isStrB d with
  | false =>
    have e : nameB d = false := by cases d <;> first | rfl | cases hs
    rw [e]
    exact sv_seqR (sv_ifT (bv_or (p := true) (q := true) (bv_not (p := false) (bv_trub (by rw [← hs]; exact ev_ar2 rfl rfl (isi_str h)))) (fun z => nomatch z)) rfl)
  | true =>
    obtain ⟨x, rfl⟩ := isStr_of hs
    obtain ⟨h1, h2⟩ := okv_str h
    have e1 : ∀ m, bOr (bNot (bTru (eAr isiD (aCons (eVar 0) (aCons (eC (.ty "str")) aNil))))) (bNot (bTest (eChain (cmpD fun i j => decide (i ≤ j)) (cmpD fun i j => decide (i ≤ j)) (eC (.int 1)) (eAr lenD (aCons (eVar 0) aNil)) (eC (.int 8))))) [some (.str x), none] m = .ok (!(decide (1 ≤ x.length) && decide (x.length ≤ 8))) m := fun m => by
      refine bv_or (p := false) (bv_not (p := true) (bv_trub (ev_ar2 rfl rfl (isi_str h)))) fun _ => bv_not (bv_test (ev_chain (b := .int x.length) rfl (ev_ar1 rfl (by rw [lenD_str, if_pos (fits_le h2)])) ?_ rfl ?_))
      · rw [cmp_le, decide_eq_decide.mpr (show ((1 : Int) ≤ x.length) ↔ 1 ≤ x.length by omega)]
      · rw [cmp_le, decide_eq_decide.mpr (show ((x.length : Int) ≤ 8) ↔ x.length ≤ 8 by omega)]
    rw [show nameB (.str x) = ((decide (1 ≤ x.length) && decide (x.length ≤ 8)) && x.cps.toList.all lowC) from rfl]
    cases hl : (decide (1 ≤ x.length) && decide (x.length ≤ 8)) with
    | false => exact sv_seqR (sv_ifT (by rw [show true = !false from rfl, ← hl]; exact e1 m) rfl)
    | true => exact sv_seq (sv_ifF (by rw [show false = !true from rfl, ← hl]; exact e1 m) rfl) (sv_ret (all_signs lowC (iSeq_str rfl) (fun c _ => low_sign rfl) h2))
theorem is_row_eq (h : okv d = true) : G_is_row_of_cells [d] m = .ok (.bl (rowB d)) m := by
  have e : szB 1 5 d = false → rowB d = false := fun e => by
    cases d <;> first | rfl | skip
    case tup l =>
      rw [show rowB (.tup l) = (szB 1 5 (.tup l) && l.all cellB) from rfl, e]
      rfl
  refine (fn_ret (and_bl (b := szB 1 5 d) (b2 := rowB d) (ev_call3 rfl rfl rfl (is_sized_eq h)) fun hi' => ?_)).trans ?_
  · have ht : isTupB d = true := by cases d <;> first | rfl | cases hi'
    obtain ⟨l, rfl⟩ := isTup_of ht
    have := all_map (m := m) (i := 1) (F := eCall 1 G_is_cell (aCons (eVar 1) aNil)) (L := iSeq (eVar 0)) (ρ := [some (.tup l), none]) cellB (iSeq_tup rfl) (fun x hx => ev_call1 rfl (is_cell_eq (okv_tup_mem h hx))) (okv_tup_len h)
    rw [show rowB (.tup l) = l.all cellB by rw [show rowB (.tup l) = (szB 1 5 (.tup l) && l.all cellB) from rfl, hi']; rfl]
    exact this
  · cases hb : szB 1 5 d
    · rw [e hb]; rfl
    · rfl
end
end K27


namespace K27
open PySem PySem.Spec L2 DL
open PyProof.Rows hiding St pairD intD cutD
section
variable {d : D} {m : List C} {cl : Str → Addr}
theorem is_fact_eq (h : okv d = true) : G_is_fact [d] m = .ok (.bl (factB d)) m := by
  refine fn_rt ?_
  cases hs : szB 2 2 d with
  | false =>
    rw [fact_no hs]
    exact sv_seqR (sv_ifT (bv_or (p := true) (q := true) (bv_not (p := false) (bv_trub (by rw [← hs]; exact ev_call3 rfl rfl rfl (is_sized_eq h)))) (fun z => nomatch z)) rfl)
  | true =>
    obtain ⟨a, b, rfl⟩ := two_of hs
    have ha := okv_tup_mem h (show a ∈ [a, b] by simp)
    have hb := okv_tup_mem h (show b ∈ [a, b] by simp)
    have t1 : bOr (bNot (bTru (eCall 3 G_is_sized (aCons (eVar 0) (aCons (eC (.int 2)) (aCons (eC (.int 2)) aNil)))))) (bNot (bTru (eCall 1 G_is_name (aCons (eBin ixD (eVar 0) (eC (.int 0))) aNil)))) [some (.tup [a, b])] m = .ok (!nameB a) m :=
      bv_or (p := false) (bv_not (p := true) (bv_trub (ev_call3 rfl rfl rfl (is_sized_eq h)))) fun _ => bv_not (bv_trub (ev_call1 (ev_bin rfl rfl rfl) (is_name_eq ha)))
    rw [show factB (.tup [a, b]) = (nameB a && (if isRule a then rule2B b else rowB b)) from rfl]
    cases hn : nameB a with
    | false => exact sv_seqR (sv_ifT (by rw [hn] at t1; exact t1) rfl)
    | true =>
      refine sv_seq (sv_ifF (by rw [hn] at t1; exact t1) rfl) ?_
      obtain ⟨x, rfl⟩ := name_str hn
      have t2 : bTest (eBin eqD (eBin ixD (eVar 0) (eC (.int 0))) (eC (.str "rule"))) [some (.tup [.str x, b])] m = .ok (isRule (.str x)) m := bv_test (ev_bin (ev_bin rfl rfl rfl) rfl (eqD_str (okv_str ha).1 (by decide +kernel)))
      cases hr : isRule (.str x) with
      | false => exact sv_seq (sv_ifF (by rw [hr] at t2; exact t2) rfl) (sv_ret (ev_call1 (ev_bin rfl rfl rfl) (is_row_eq hb)))
      | true =>
        refine sv_seqR (sv_ifT (by rw [hr] at t2; exact t2) (sv_ret ((and_bl (b := szB 2 2 b) (b2 := rule2B b) (ev_call3 (ev_bin rfl rfl rfl) rfl rfl (is_sized_eq hb)) fun hi => ?_).trans ?_)))
        · obtain ⟨c, d, rfl⟩ := two_of hi
          have hc := okv_tup_mem hb (show c ∈ [c, d] by simp)
          have hd := okv_tup_mem hb (show d ∈ [c, d] by simp)
          exact and_bl (ev_call1 (ev_bin (ev_bin rfl rfl rfl) rfl rfl) (is_name_eq hc)) fun _ => ev_call1 (ev_bin (ev_bin rfl rfl rfl) rfl rfl) (is_text_eq hd)
        · cases hb2 : szB 2 2 b with
          | true => rfl
          | false => rw [rule2_no hb2]; rfl
/-! ### what is checked -/
theorem check_prime_ok (h : okv d = true) (hp : inB2 1000 170141183460469231731687303715884105728 d = true) : G_check_prime cl [d] m = .ok .non m :=
  fn_nx (ρ1 := [some d]) (sv_ifF (bv_not (p := true) (bv_trub (by rw [← hp]; exact ev_call3 rfl rfl rfl (is_within_eq h)))) rfl)
theorem check_prime_no (h : okv d = true) (hp : inB2 1000 170141183460469231731687303715884105728 d = false) : G_check_prime cl [d] m = .exc (cl "NoPrime") [] [] m :=
  fn_exc (ρ1 := [some d]) (sv_ifT (bv_not (p := false) (bv_trub (by rw [← hp]; exact ev_call3 rfl rfl rfl (is_within_eq h)))) rfl)
theorem check_fact_ok (h : okv d = true) (hp : factB d = true) : G_check_fact cl [d] m = .ok .non m :=
  fn_nx (ρ1 := [some d]) (sv_ifF (bv_not (p := true) (bv_trub (by rw [← hp]; exact ev_call1 rfl (is_fact_eq h)))) rfl)
theorem check_fact_no (h : okv d = true) (hp : factB d = false) : G_check_fact cl [d] m = .exc (cl "NoFact") [] [] m :=
  fn_exc (ρ1 := [some d]) (sv_ifT (bv_not (p := false) (bv_trub (by rw [← hp]; exact ev_call1 rfl (is_fact_eq h)))) rfl)
end
end K27


namespace K27
open PySem PySem.Spec L2 DL
open PyProof.Rows hiding St pairD intD cutD
/-! ### the mixing -/
def numC (c : Nat) : Int := if c = 10 then 0 else (c : Int) - 31
def mixStep (p f : Int) (c : Nat) : Int := (f * f + 3 * f * numC c + numC c + 5) % p
def mixF (p : Int) (l : List Nat) (f : Int) : Int := l.foldl (mixStep p) f
def mixS (p : Int) (x : Str) : Int := mixF p x.cps.toList 1
theorem num_eq {i : Nat} {ρ : DL.Env} {m : List C} {c : Nat} (hi : ρ[i]? = some (some (.str (one c)))) (hc : c < 1114112) :
    eIf (bTest (eBin eqD (eVar i) (eC (.str "\n")))) (eC (.int 0)) (eBin subD (eAr ordD (aCons (eVar i) aNil)) (eC (.int 31))) ρ m = .ok (.int (numC c)) m := by
  refine ev_if (bv_test (ev_bin (ev_var hi) rfl (eq_lf hc))) (fun h => ?_) (fun h => ?_)
  · unfold numC
    rw [if_pos (of_decide_eq_true h)]
    rfl
  · unfold numC
    rw [if_neg (of_decide_eq_false h)]
    exact ev_bin (ev_ar1 (ev_var hi) rfl) rfl rfl
theorem num_small {c : Nat} (hc : c < 1114112) : (numC c).natAbs < 2000000 := by
  unfold numC
  split <;> omega
section
variable {p f : Int} {c : Nat} {m : List C} {e4 : Option D} {t : D}
theorem sum_eq {ρ : DL.Env} (h2 : ρ[2]? = some (some (.int f))) (h4 : ρ[4]? = some (some (.int (numC c)))) (hf0 : 0 ≤ f) (hf : f < 1000000000000000000000000000000000000000000000000) (hc : c < 1114112) :
    eBin addD (eBin addD (eBin addD (eBin mulD (eVar 2) (eVar 2)) (eBin mulD (eBin mulD (eC (.int 3)) (eVar 2)) (eVar 4))) (eVar 4)) (eC (.int 5)) ρ m = .ok (.int (f * f + 3 * f * numC c + numC c + 5)) m := by
  have hn := num_small hc
  exact ev_bin (ev_bin (ev_bin (ev_bin (ev_var h2) (ev_var h2) (mul_eq (mulOk_abs (by omega) (by omega)))) (ev_bin (ev_bin rfl (ev_var h2) (mul_eq (mulOk_abs (by omega) (by omega)))) (ev_var h4) (mul_eq (mulOk_abs (by omega) (by omega)))) rfl) (ev_var h4) rfl) rfl rfl
theorem raw_loop (hp0 : 0 < p) (hp : p < 1000000000000000000000000000000000000000000000000) : ∀ {l : List Nat} {f : Int} {e3 e4 : Option D}, (∀ c ∈ l, c < 1114112) → 0 ≤ f → f < 1000000000000000000000000000000000000000000000000 →
    ∃ e3' e4', loopD (gN 3) (sSeq (sSet 4 (eIf (bTest (eBin eqD (eVar 3) (eC (.str "\n")))) (eC (.int 0)) (eBin subD (eAr ordD (aCons (eVar 3) aNil)) (eC (.int 31)))))
    (sSet 2 (eBin modD (eBin addD (eBin addD (eBin addD (eBin mulD (eVar 2) (eVar 2)) (eBin mulD (eBin mulD (eC (.int 3)) (eVar 2)) (eVar 4))) (eVar 4)) (eC (.int 5))) (eVar 0)))) (l.map fun c => D.str (one c)) [some (.int p), some t, some (.int f), e3, e4] m = .nx [some (.int p), some t, some (.int (mixF p l f)), e3', e4'] m
  | [], f, e3, e4, _, _, _ => ⟨e3, e4, rfl⟩
  | c :: l, f, e3, e4, h, hf0, hf => by
    have hc := h c List.mem_cons_self
    obtain ⟨e3', e4', ih⟩ := raw_loop hp0 hp (l := l) (f := mixStep p f c) (e3 := some (.str (one c))) (e4 := some (.int (numC c))) (fun x hx => h x (List.mem_cons_of_mem _ hx)) (Int.emod_nonneg _ (by omega)) (Int.lt_trans (Int.emod_lt_of_pos _ hp0) hp)
    refine ⟨e3', e4', ?_⟩
    have hb : (sSeq (sSet 4 (eIf (bTest (eBin eqD (eVar 3) (eC (.str "\n")))) (eC (.int 0)) (eBin subD (eAr ordD (aCons (eVar 3) aNil)) (eC (.int 31)))))
    (sSet 2 (eBin modD (eBin addD (eBin addD (eBin addD (eBin mulD (eVar 2) (eVar 2)) (eBin mulD (eBin mulD (eC (.int 3)) (eVar 2)) (eVar 4))) (eVar 4)) (eC (.int 5))) (eVar 0)))) [some (.int p), some t, some (.int f), some (.str (one c)), e4] m = .nx [some (.int p), some t, some (.int (mixStep p f c)), some (.str (one c)), some (.int (numC c))] m :=
      sv_seq (sv_set (num_eq rfl hc)) (sv_set (ev_bin (sum_eq rfl rfl hf0 hf hc) rfl (mod_eq hp0)))
    exact loop_cons rfl hb ih
theorem l_loop (hp0 : 0 < p) (hp : p < 1000000000000000000000000000000000000000000000000) : ∀ {l : List Nat} {f : Int} {e3 e4 : Option D}, (∀ c ∈ l, c < 1114112) → 0 ≤ f → f < 1000000000000000000000000000000000000000000000000 →
    ∃ e3' e4', loopD (gN 3) (sSeq (sSet 4 (eIf (bTest (eBin eqD (eVar 3) (eC (.str "\n")))) (eC (.int 0)) (eBin subD (eAr ordD (aCons (eVar 3) aNil)) (eC (.int 31)))))
    (sSet 2 (eBin modD (eAr DL.intD (aCons (eBin addD (eBin addD (eBin addD (eBin mulD (eVar 2) (eVar 2)) (eBin mulD (eBin mulD (eC (.int 3)) (eVar 2)) (eVar 4))) (eVar 4)) (eC (.int 5))) aNil)) (eVar 0)))) (l.map fun c => D.str (one c)) [some (.int p), some t, some (.int f), e3, e4] m = .nx [some (.int p), some t, some (.int (mixF p l f)), e3', e4'] m
  | [], f, e3, e4, _, _, _ => ⟨e3, e4, rfl⟩
  | c :: l, f, e3, e4, h, hf0, hf => by
    have hc := h c List.mem_cons_self
    obtain ⟨e3', e4', ih⟩ := l_loop hp0 hp (l := l) (f := mixStep p f c) (e3 := some (.str (one c))) (e4 := some (.int (numC c))) (fun x hx => h x (List.mem_cons_of_mem _ hx)) (Int.emod_nonneg _ (by omega)) (Int.lt_trans (Int.emod_lt_of_pos _ hp0) hp)
    refine ⟨e3', e4', ?_⟩
    have hb : (sSeq (sSet 4 (eIf (bTest (eBin eqD (eVar 3) (eC (.str "\n")))) (eC (.int 0)) (eBin subD (eAr ordD (aCons (eVar 3) aNil)) (eC (.int 31)))))
    (sSet 2 (eBin modD (eAr DL.intD (aCons (eBin addD (eBin addD (eBin addD (eBin mulD (eVar 2) (eVar 2)) (eBin mulD (eBin mulD (eC (.int 3)) (eVar 2)) (eVar 4))) (eVar 4)) (eC (.int 5))) aNil)) (eVar 0)))) [some (.int p), some t, some (.int f), some (.str (one c)), e4] m = .nx [some (.int p), some t, some (.int (mixStep p f c)), some (.str (one c)), some (.int (numC c))] m :=
      sv_seq (sv_set (num_eq rfl hc)) (sv_set (ev_bin (ev_ar1 (sum_eq rfl rfl hf0 hf hc) rfl) rfl (mod_eq hp0)))
    exact loop_cons rfl hb ih
theorem raw_mix_eq {x : Str} (hp0 : 0 < p) (hp : p < 1000000000000000000000000000000000000000000000000) (hx : PyData.strOk x = true) : G_raw_mix [.int p, .str x] m = .ok (.int (mixS p x)) m := by
  obtain ⟨e3, e4, h⟩ := raw_loop (t := .str x) (m := m) hp0 hp (l := x.cps.toList) (f := 1) (e3 := none) (e4 := none) (fun c hc => strOk_mem hx hc) (by omega) (by omega)
  exact fn_rt (sv_seq (sv_set rfl) (sv_seq h (sv_ret rfl)))
theorem l_mix_eq {x : Str} (hp0 : 0 < p) (hp : p < 1000000000000000000000000000000000000000000000000) (hx : PyData.strOk x = true) : G_l_mix [.int p, .str x] m = .ok (.int (mixS p x)) m := by
  obtain ⟨e3, e4, h⟩ := l_loop (t := .str x) (m := m) hp0 hp (l := x.cps.toList) (f := 1) (e3 := none) (e4 := none) (fun c hc => strOk_mem hx hc) (by omega) (by omega)
  exact fn_rt (sv_seq (sv_set rfl) (sv_seq h (sv_ret rfl)))
end
end K27


namespace K27
open PySem PySem.Spec L2 DL
open PyProof.Rows hiding St pairD intD cutD
/-! ### the texts of worths -/
def escL (l : List Nat) : List Nat := l.flatMap fun c => if c = 39 ∨ c = 126 then [126, c] else [c]
def worthT : D → Str
  | .int i => intT i
  | .str x => SX.S (39 :: (escL x.cps.toList ++ [39]))
  | _ => ""
theorem quoted {l : List Nat} : ("'" : Str) ++ SX.S l ++ "'" = SX.S (39 :: (l ++ [39])) := str_ext (by
  rw [tl_add, tl_add]
  rfl)
theorem esc_len : ∀ l : List Nat, (escL l).length ≤ 2 * l.length
  | [] => Nat.le_refl _
  | c :: l => by
    have := esc_len l
    unfold escL at this ⊢
    rw [List.flatMap_cons, List.length_append, List.length_cons]
    split
    · show 2 + _ ≤ _
      omega
    · show 1 + _ ≤ _
      omega
theorem esc_mem {l : List Nat} {c : Nat} (h : c ∈ escL l) : c = 126 ∨ c ∈ l := by
  unfold escL at h
  obtain ⟨x, hx, h⟩ := List.mem_flatMap.mp h
  split at h
  · simp only [List.mem_cons, List.not_mem_nil, or_false] at h
    rcases h with h | h
    · exact .inl h
    · rw [h]; exact .inr hx
  · simp only [List.mem_cons, List.not_mem_nil, or_false] at h
    rw [h]; exact .inr hx
theorem worth_len {d : D} (h : okv d = true) : (worthT d).length ≤ 200100 := by
  cases d <;> first | (show (Str.ofString "").length ≤ _; decide) | skip
  case int i =>
    have hi : DL.strOk i = true := by unfold okv at h; exact h
    exact Nat.le_trans (len_int hi) (by decide)
  case str x =>
    obtain ⟨_, h2⟩ := okv_str h
    show (SX.S _).length ≤ _
    rw [SX.S_len, List.length_cons, List.length_append]
    have := esc_len x.cps.toList
    rw [len_toList] at this
    simp only [List.length_cons, List.length_nil]
    omega
theorem worth_strOk {d : D} (h : okv d = true) : PyData.strOk (worthT d) = true := by
  cases d <;> first | (show PyData.strOk (Str.ofString "") = true; decide +kernel) | skip
  case int i => exact strOk_int
  case str x =>
    obtain ⟨h1, _⟩ := okv_str h
    refine strOk_of fun c hc => ?_
    rcases List.mem_cons.mp hc with h | h
    · omega
    · rcases List.mem_append.mp h with h | h
      · rcases esc_mem h with h | h
        · omega
        · exact strOk_mem h1 h
      · simp only [List.mem_cons, List.not_mem_nil, or_false] at h
        omega
section
variable {d : D} {m : List C} {cl : Str → Addr}
theorem sign_text {c : Nat} {i : Nat} {ρ : DL.Env} (hi : ρ[i]? = some (some (.str (one c)))) : eIf (bTest (eBin inD (eVar i) (eC (.str "'~")))) (eBin addD (eC (.str "~")) (eVar i)) (eVar i) ρ m = .ok (.str (SX.S (if c = 39 ∨ c = 126 then [126, c] else [c]))) m := by
  have e : inD (.str (one c)) (.str "'~") m = .ok (.bl (decide (c = 39 ∨ c = 126))) m := by
    show R.ok (D.bl (strIn (one c) "'~")) m = _
    rw [strIn_one]
    congr 2
    exact decide_eq_decide.mpr (by rw [show ("'~" : Str).cps.toList = [39, 126] from rfl]; simp)
  refine ev_if (bv_test (ev_bin (ev_var hi) rfl e)) (fun h => ?_) (fun h => ?_)
  · rw [if_pos (of_decide_eq_true h)]
    exact ev_bin rfl (ev_var hi) (addS (by show 1 + 1 ≤ _; decide))
  · rw [if_neg (of_decide_eq_false h)]
    exact ev_var hi
theorem worth_text_eq (h : okv d = true) (hc : cellB d = true ∨ isStrB d = true) : G_worth_text [d] m = .ok (.str (worthT d)) m := by
  refine fn_rt ?_
  cases hi : isIntB d with
  | true =>
    obtain ⟨i, rfl⟩ := isInt_of hi
    have hi : DL.strOk i = true := by unfold okv at h; exact h
    exact sv_seqR (sv_ifT (bv_trub (ev_call1 rfl (is_integer_eq h))) (sv_ret (ev_ar1 rfl (strD_eq hi))))
  | false =>
    have hs : isStrB d = true := by
      rcases hc with hc | hc
      · unfold cellB at hc
        rw [hi] at hc
        cases d <;> first | rfl | cases hc
      · exact hc
    obtain ⟨x, rfl⟩ := isStr_of hs
    obtain ⟨h1, h2⟩ := okv_str h
    have e1 := lc_signsD (L := iSeq (eVar 0)) (i := 1) (F := eIf (bTest (eBin inD (eVar 1) (eC (.str "'~")))) (eBin addD (eC (.str "~")) (eVar 1)) (eVar 1)) (ρ := [some (.str x), none]) (m := m) (x := x) (fun c => D.str (SX.S (if c = 39 ∨ c = 126 then [126, c] else [c]))) (iSeq_str rfl) (fun c hc => sign_text rfl) h2
    have e2 : (x.cps.toList.map fun c => D.str (SX.S (if c = 39 ∨ c = 126 then [126, c] else [c]))) = (x.cps.toList.map fun c => SX.S (if c = 39 ∨ c = 126 then [126, c] else [c])).map D.str := by rw [List.map_map]; rfl
    rw [e2] at e1
    have ej := ev_join (a := "") e1 (joinOk_le (k := 2) (n := 100000) (fun y hy => by
      obtain ⟨c, _, rfl⟩ := List.mem_map.mp hy
      split
      · exact Nat.le_refl 2
      · exact Nat.le_succ 1) (by rw [List.length_map, len_toList]; exact h2) (by decide))
    have et : (Txt.join "" (x.cps.toList.map fun c => SX.S (if c = 39 ∨ c = 126 then [126, c] else [c]))) = SX.S (escL x.cps.toList) := str_ext (by
      rw [tl_join, show ("" : Str).cps.toList = [] from rfl, joinL_nil, List.map_map]
      show _ = escL x.cps.toList
      unfold escL
      rw [List.flatMap_def]
      rfl)
    rw [et] at ej
    have hl : (escL x.cps.toList).length ≤ 200000 := by
      have := esc_len x.cps.toList
      rw [len_toList] at this
      omega
    have hl2 : (SX.S (escL x.cps.toList)).length ≤ 200000 := by rw [SX.S_len]; exact hl
    refine sv_seq (sv_ifF (bv_trub (ev_call1 rfl (is_integer_eq h))) rfl) (sv_ret (ev_bin (ev_bin rfl ej (addS ?_)) rfl ?_))
    · show 1 + (SX.S (escL x.cps.toList)).length ≤ _
      omega
    · rw [addS (by rw [len_add]; show (1 + (SX.S (escL x.cps.toList)).length) + 1 ≤ _; omega), quoted]
      rfl
theorem l_worth_text_eq (h : okv d = true) (hc : cellB d = true ∨ isStrB d = true) : G_l_worth_text [d] m = .ok (.str (worthT d)) m := by
  refine fn_rt ?_
  cases hs : isStrB d with
  | false =>
    have hi : isIntB d = true := by
      rcases hc with hc | hc
      · unfold cellB at hc
        cases d <;> first | rfl | cases hc | cases hs
      · rw [hs] at hc; cases hc
    obtain ⟨i, rfl⟩ := isInt_of hi
    have hi : DL.strOk i = true := by unfold okv at h; exact h
    exact sv_seq (sv_ifF (bv_trub (ev_ar2 rfl rfl (isi_str h))) rfl) (sv_ret (ev_ar1 rfl (strD_eq hi)))
  | true =>
    obtain ⟨x, rfl⟩ := isStr_of hs
    obtain ⟨h1, h2⟩ := okv_str h
    have o1 : replOk x "~~" = true := replOk_le (k := 100000) (n := 2) h2 (by decide) (by decide)
    have l1 : (Txt.replace x "~" "~~").length ≤ 300002 := by
      have := replace_len (x := x) (y := "~") (z := "~~")
      have e : ("~~" : Str).length = 2 := rfl
      rw [e] at this
      omega
    have o2 : replOk (Txt.replace x "~" "~~") "~'" = true := replOk_le (k := 300002) (n := 2) l1 (by decide) (by decide)
    have et : Txt.replace (Txt.replace x "~" "~~") "'" "~'" = SX.S (escL x.cps.toList) := str_ext (by
      rw [replace1 (y := "'") (a := 39) rfl, replace1 (y := "~") (a := 126) rfl, List.flatMap_assoc]
      show _ = escL x.cps.toList
      unfold escL
      congr 1
      funext c
      by_cases h126 : c = 126
      · subst h126; rfl
      · by_cases h39 : c = 39
        · subst h39; rfl
        · rw [if_neg h126, if_neg (by omega)]
          show (if c = 39 then _ else _) ++ [] = [c]
          rw [if_neg h39]
          rfl)
    have hl : (escL x.cps.toList).length ≤ 200000 := by
      have := esc_len x.cps.toList
      rw [len_toList] at this
      omega
    have hl2 : (SX.S (escL x.cps.toList)).length ≤ 200000 := by rw [SX.S_len]; exact hl
    refine sv_seqR (sv_ifT (bv_trub (ev_ar2 rfl rfl (isi_str h))) (sv_ret (ev_bin (ev_bin rfl (ev_repl (ev_repl rfl o1) o2) (addS (by rw [et]; show 1 + (SX.S (escL x.cps.toList)).length ≤ _; omega))) rfl ?_)))
    rw [et, addS (by rw [len_add]; show (1 + (SX.S (escL x.cps.toList)).length) + 1 ≤ _; omega), quoted]
    rfl
/-! ### the texts of facts -/
def factT (a : Str) (l : List D) : Str := a ++ "(" ++ Txt.join "," (l.map worthT) ++ ")"
theorem lc_worths {G : FS} {l : List D} {e : D} {o : Option D} {L : LS} (hL : L [some e, o] m = .ok l m) (hl : ∀ d ∈ l, okv d = true ∧ (cellB d = true ∨ isStrB d = true)) (hn : l.length ≤ 5) (hG : ∀ d, okv d = true → (cellB d = true ∨ isStrB d = true) → G [d] m = .ok (.str (worthT d)) m) :
    eMt "str" joinD (eC (.str ",")) (aCons (eLc L (gN 1) [1] bYes (eCall 1 G (aCons (eVar 1) aNil))) aNil) [some e, o] m = .ok (.str (Txt.join "," (l.map worthT))) m := by
  refine ev_join (ys := l.map worthT) ?_ (joinOk_le (k := 200100) (n := 5) (fun y hy => ?_) (by rw [List.length_map]; exact hn) (by decide))
  · rw [List.map_map]
    exact lc_pure (fun d => .str (worthT d)) hL (fun d hd => ⟨_, rfl, ev_call1 rfl (hG d (hl d hd).1 (hl d hd).2)⟩) (by omega)
  · obtain ⟨d, hd, rfl⟩ := List.mem_map.mp hy
    exact worth_len (hl d hd).1
theorem join_len {l : List D} (hl : ∀ d ∈ l, okv d = true ∧ (cellB d = true ∨ isStrB d = true)) (hn : l.length ≤ 5) : (Txt.join "," (l.map worthT)).length ≤ 1000505 := by
  have h := len_joinS (a := ",") (k := 200100) (n := 5) (ys := l.map worthT) (fun y hy => by
    obtain ⟨d, hd, rfl⟩ := List.mem_map.mp hy
    exact worth_len (hl d hd).1) (by rw [List.length_map]; exact hn)
  rw [show (("," : Str)).length = 1 from rfl] at h
  exact h
/-- what a fact's text asks -/
structure FactOk (a : Str) (l : List D) : Prop where
  a : a.length ≤ 100 ∧ PyData.strOk a = true
  n : l.length ≤ 5
  l : ∀ d ∈ l, okv d = true ∧ (cellB d = true ∨ isStrB d = true)
theorem FactOk.strOk {a : Str} {l : List D} (h : FactOk a l) : PyData.strOk (factT a l) = true := by
  refine strOk_add (strOk_add (strOk_add h.a.2 (by decide +kernel)) (strOk_join (by decide +kernel) fun y hy => ?_)) (by decide +kernel)
  obtain ⟨d, hd, rfl⟩ := List.mem_map.mp hy
  exact worth_strOk (h.l d hd).1
theorem FactOk.of {d : D} (h : okv d = true) (hf : factB d = true) : ∃ a l, d = .tup [.str a, .tup l] ∧ FactOk a l := by
  have hs : szB 2 2 d = true := by
    cases hs : szB 2 2 d with
    | true => rfl
    | false => rw [fact_no hs] at hf; cases hf
  obtain ⟨x, b, rfl⟩ := two_of hs
  have hx := okv_tup_mem h (show x ∈ [x, b] by simp)
  have hb := okv_tup_mem h (show b ∈ [x, b] by simp)
  rw [show factB (.tup [x, b]) = (nameB x && (if isRule x then rule2B b else rowB b)) from rfl, Bool.and_eq_true] at hf
  obtain ⟨hn, hf⟩ := hf
  obtain ⟨a, rfl⟩ := name_str hn
  have ha : a.length ≤ 100 ∧ PyData.strOk a = true := by
    rw [show nameB (.str a) = ((decide (1 ≤ a.length) && decide (a.length ≤ 8)) && a.cps.toList.all lowC) from rfl] at hn
    simp only [Bool.and_eq_true, decide_eq_true_eq] at hn
    exact ⟨by omega, (okv_str hx).1⟩
  cases hr : isRule (.str a) with
  | true =>
    rw [hr, if_pos rfl] at hf
    have hs : szB 2 2 b = true := by
      cases hs : szB 2 2 b with
      | true => rfl
      | false => rw [rule2_no hs] at hf; cases hf
    obtain ⟨c, e, rfl⟩ := two_of hs
    refine ⟨a, [c, e], rfl, ha, (show 2 ≤ 5 by decide), fun d hd => ⟨okv_tup_mem hb hd, .inr ?_⟩⟩
    rw [show rule2B (.tup [c, e]) = (nameB c && textB e) from rfl, Bool.and_eq_true] at hf
    simp only [List.mem_cons, List.not_mem_nil, or_false] at hd
    rcases hd with rfl | rfl
    · obtain ⟨_, rfl⟩ := name_str hf.1; rfl
    · cases d <;> first | rfl | cases hf.2
  | false =>
    rw [hr, if_neg (by simp)] at hf
    have ht : isTupB b = true := by cases b <;> first | rfl | cases hf
    obtain ⟨l, rfl⟩ := isTup_of ht
    rw [show rowB (.tup l) = (szB 1 5 (.tup l) && l.all cellB) from rfl, Bool.and_eq_true] at hf
    refine ⟨a, l, rfl, ha, ?_, fun d hd => ⟨okv_tup_mem hb hd, .inl (List.all_eq_true.mp hf.2 d hd)⟩⟩
    have := hf.1
    unfold szB at this
    rw [Bool.and_eq_true, decide_eq_true_eq, decide_eq_true_eq] at this
    omega
theorem ft_eq {G : FS} {a : Str} {l : List D} {o : Option D} (h : FactOk a l) (hG : ∀ d, okv d = true → (cellB d = true ∨ isStrB d = true) → G [d] m = .ok (.str (worthT d)) m) :
    eBin addD (eBin addD (eBin addD (eBin ixD (eVar 0) (eC (.int 0))) (eC (.str "("))) (eMt "str" joinD (eC (.str ",")) (aCons (eLc (iSeq (eBin ixD (eVar 0) (eC (.int 1)))) (gN 1) [1] bYes (eCall 1 G (aCons (eVar 1) aNil))) aNil))) (eC (.str ")")) [some (.tup [.str a, .tup l]), o] m = .ok (.str (factT a l)) m := by
  have hj := join_len h.l h.n
  have ha := h.a.1
  refine ev_bin (ev_bin (ev_bin (ev_bin rfl rfl rfl) rfl (addS ?_)) (lc_worths (iSeq_tup (ev_bin rfl rfl rfl)) h.l h.n hG) (addS ?_)) rfl (addS ?_)
  · show a.length + 1 ≤ _
    omega
  · rw [len_add]
    show (a.length + 1) + _ ≤ _
    omega
  · rw [len_add, len_add]
    show (a.length + 1) + _ + 1 ≤ _
    omega
theorem raw_fact_text_eq {a : Str} {l : List D} (h : FactOk a l) : G_raw_fact_text [.tup [.str a, .tup l]] m = .ok (.str (factT a l)) m := fn_ret (ft_eq h fun d h1 h2 => worth_text_eq h1 h2)
theorem l_fact_text_eq {a : Str} {l : List D} (h : FactOk a l) : G_l_fact_text [.tup [.str a, .tup l]] m = .ok (.str (factT a l)) m := fn_ret (ft_eq h fun d h1 h2 => l_worth_text_eq h1 h2)
theorem l_number_eq {p : Int} {a : Str} {l : List D} (hp0 : 0 < p) (hp : p < 1000000000000000000000000000000000000000000000000) (h : FactOk a l) : G_l_number [.int p, .tup [.str a, .tup l]] m = .ok (.int (mixS p (factT a l))) m :=
  fn_ret (ev_call2 rfl (ev_call1 rfl (l_fact_text_eq h)) (l_mix_eq hp0 hp h.strOk))
theorem raw_number_eq {p : Int} {a : Str} {l : List D} (hp0 : 0 < p) (hp : p < 1000000000000000000000000000000000000000000000000) (h : FactOk a l) : G_raw_number_of [.int p, .tup [.str a, .tup l]] m = .ok (.int (mixS p (factT a l))) m :=
  fn_ret (ev_call2 rfl (ev_call1 rfl (raw_fact_text_eq h)) (raw_mix_eq hp0 hp h.strOk))
/-! ### mix, fact_text, number_of -/
abbrev primeB : D → Bool := inB2 1000 170141183460469231731687303715884105728
theorem prime_of {d : D} (h : primeB d = true) : ∃ p, d = .int p ∧ 1000 ≤ p ∧ p ≤ 170141183460469231731687303715884105728 := by
  cases d <;> first | cases h | skip
  case int p =>
    rw [show primeB (.int p) = (decide (1000 ≤ p) && decide (p ≤ 170141183460469231731687303715884105728)) from rfl, Bool.and_eq_true, decide_eq_true_eq, decide_eq_true_eq] at h
    exact ⟨p, rfl, h.1, h.2⟩
theorem text_of {d : D} (h : textB d = true) : ∃ x, d = .str x := by
  cases d <;> first | exact ⟨_, rfl⟩ | cases h
theorem mix_eq {p : Int} {x : Str} (hp : okv (.int p) = true) (hp1 : primeB (.int p) = true) (hx : okv (.str x) = true) (ht : textB (.str x) = true) : G_mix cl [.int p, .str x] m = .ok (.int (mixS p x)) m := by
  obtain ⟨_, e, h1, h2⟩ := prime_of hp1
  cases e
  exact fn_rt (sv_seq (sv_expr (ev_call1 rfl (check_prime_ok hp hp1))) (sv_seq (sv_ifF (bv_not (p := true) (bv_trub (by rw [← ht]; exact ev_call1 rfl (is_text_eq hx)))) rfl) (sv_ret (ev_call2 rfl rfl (raw_mix_eq (by omega) (by omega) (okv_str hx).1)))))
theorem mix_noP {p x : D} (hp : okv p = true) (hp1 : primeB p = false) : G_mix cl [p, x] m = .exc (cl "NoPrime") [] [] m :=
  fn_exc (sv_seqX (sv_exprX (ev_call1X rfl (check_prime_no hp hp1))))
theorem mix_noT {p x : D} (hp : okv p = true) (hp1 : primeB p = true) (hx : okv x = true) (ht : textB x = false) : G_mix cl [p, x] m = .exc (cl "NoText") [] [] m :=
  fn_exc (ρ1 := [some p, some x]) (sv_seq (sv_expr (ev_call1 rfl (check_prime_ok hp hp1))) (sv_seqX (sv_ifT (bv_not (p := false) (bv_trub (by rw [← ht]; exact ev_call1 rfl (is_text_eq hx)))) rfl)))
theorem fact_text_eq {a : Str} {l : List D} (h : okv (.tup [.str a, .tup l]) = true) (hf : factB (.tup [.str a, .tup l]) = true) (ho : FactOk a l) : G_fact_text cl [.tup [.str a, .tup l]] m = .ok (.str (factT a l)) m :=
  fn_rt (sv_seq (sv_expr (ev_call1 rfl (check_fact_ok h hf))) (sv_ret (ev_call1 rfl (raw_fact_text_eq ho))))
theorem fact_text_no {d : D} (h : okv d = true) (hf : factB d = false) : G_fact_text cl [d] m = .exc (cl "NoFact") [] [] m :=
  fn_exc (sv_seqX (sv_exprX (ev_call1X rfl (check_fact_no h hf))))
theorem number_eq {p : Int} {a : Str} {l : List D} (hp : okv (.int p) = true) (hp1 : primeB (.int p) = true) (h : okv (.tup [.str a, .tup l]) = true) (hf : factB (.tup [.str a, .tup l]) = true) (ho : FactOk a l) : G_number_of cl [.int p, .tup [.str a, .tup l]] m = .ok (.int (mixS p (factT a l))) m := by
  obtain ⟨_, e, h1, h2⟩ := prime_of hp1
  cases e
  exact fn_rt (sv_seq (sv_expr (ev_call1 rfl (check_prime_ok hp hp1))) (sv_seq (sv_expr (ev_call1 rfl (check_fact_ok h hf))) (sv_ret (ev_call2 rfl rfl (raw_number_eq (by omega) (by omega) ho)))))
theorem number_noP {p x : D} (hp : okv p = true) (hp1 : primeB p = false) : G_number_of cl [p, x] m = .exc (cl "NoPrime") [] [] m :=
  fn_exc (sv_seqX (sv_exprX (ev_call1X rfl (check_prime_no hp hp1))))
theorem number_noF {p x : D} (hp : okv p = true) (hp1 : primeB p = true) (hx : okv x = true) (ht : factB x = false) : G_number_of cl [p, x] m = .exc (cl "NoFact") [] [] m :=
  fn_exc (sv_seq (sv_expr (ev_call1 rfl (check_prime_ok hp hp1))) (sv_seqX (sv_exprX (ev_call1X rfl (check_fact_no hx ht)))))
end
end K27


namespace K27
open PySem PySem.Spec L2 DL
open PyProof.Rows hiding St pairD intD cutD
section
variable {d : D} {m : List C} {cl : Str → Addr}
theorem l_is_prime_eq (h : okv d = true) : G_l_is_prime [d] m = .ok (.bl (primeB d)) m := by
  cases hi : isIntB d with
  | true =>
    obtain ⟨i, rfl⟩ := isInt_of hi
    exact fn_rt (sv_seq (sv_ifF (bv_or (p := false) (bv_not (p := true) (bv_trub (ev_ar2 rfl rfl (isi_int h)))) fun _ => bv_trub (ev_ar2 rfl rfl (isi_bool h))) rfl) (sv_ret (ev_chain rfl rfl rfl rfl rfl)))
  | false =>
    cases d <;> first | rfl | (simp [okv] at h; done) | cases hi
theorem l_is_text_eq (h : okv d = true) : G_l_is_text [d] m = .ok (.bl (textB d)) m := by
  have e : isStrB d = false → textB d = false := fun e => by cases d <;> first | rfl | cases e
  refine (fn_ret (and_bl (b := isStrB d) (b2 := textB d) (ev_ar2 rfl rfl (isi_str h)) fun hi' => ?_)).trans ?_
  · obtain ⟨x, rfl⟩ := isStr_of hi'
    obtain ⟨h1, h2⟩ := okv_str h
    refine all_signs textC (iSeq_str rfl) (fun c hc => (or_bl (ev_bin rfl rfl (eq_lf (strOk_mem h1 hc))) (line_sign rfl)).trans ?_) h2
    unfold textC lineC
    rw [Bool.or_comm]
  · cases hb : isStrB d
    · rw [e hb]; rfl
    · rfl
theorem l_is_worth_eq (h : okv d = true) : G_l_is_worth [d] m = .ok (.bl (cellB d)) m := by
  cases hs : isStrB d with
  | true =>
    obtain ⟨x, rfl⟩ := isStr_of hs
    obtain ⟨h1, h2⟩ := okv_str h
    exact fn_rt (sv_seqR (sv_ifT (bv_trub (ev_ar2 rfl rfl (isi_str h))) (sv_ret (and_bl (b := decide (x.length ≤ 20)) (ev_bin (ev_ar1 rfl (by rw [lenD_str, if_pos (fits_le h2)])) rfl (by rw [cmp_le, decide_eq_decide.mpr (show ((x.length : Int) ≤ 20) ↔ x.length ≤ 20 by omega)])) fun _ => all_signs lineC (iSeq_str rfl) (fun c _ => line_sign rfl) h2))))
  | false =>
    cases d <;> first | rfl | (simp [okv] at h; done) | cases hs
theorem l_is_name_eq (h : okv d = true) : G_l_is_name [d] m = .ok (.bl (nameB d)) m := by
  have e : isStrB d = false → nameB d = false := fun e => by cases d <;> first | rfl | cases e
  refine (fn_ret (and_bl (b := isStrB d) (b2 := nameB d) (ev_ar2 rfl rfl (isi_str h)) fun hi' => ?_)).trans ?_
  · obtain ⟨x, rfl⟩ := isStr_of hi'
    obtain ⟨h1, h2⟩ := okv_str h
    exact and_bl (b := decide (1 ≤ x.length) && decide (x.length ≤ 8)) (ev_chain (b := .int x.length) rfl (ev_ar1 rfl (by rw [lenD_str, if_pos (fits_le h2)])) (by rw [cmp_le, decide_eq_decide.mpr (show ((1 : Int) ≤ x.length) ↔ 1 ≤ x.length by omega)]) rfl (by rw [cmp_le, decide_eq_decide.mpr (show ((x.length : Int) ≤ 8) ↔ x.length ≤ 8 by omega)])) fun _ => all_signs lowC (iSeq_str rfl) (fun c _ => low_sign rfl) h2
  · cases hb : isStrB d
    · rw [e hb]; rfl
    · rfl
theorem row_no (h : isTupB d = false) : rowB d = false := by cases d <;> first | rfl | cases h
theorem l_is_fact_eq (h : okv d = true) : G_l_is_fact [d] m = .ok (.bl (factB d)) m := by
  refine fn_rt ?_
  cases ht : isTupB d with
  | false =>
    rw [show factB d = false by cases d <;> first | rfl | cases ht]
    exact sv_seqR (sv_ifT (bv_or (p := true) (q := true) (bv_not (p := false) (bv_trub (by rw [← ht]; exact ev_ar2 rfl rfl (isi_tup h)))) (fun z => nomatch z)) rfl)
  | true =>
    obtain ⟨l, rfl⟩ := isTup_of ht
    by_cases h2 : l.length = 2
    · obtain ⟨a, b, rfl⟩ : ∃ a b, l = [a, b] := by
        match l, h2 with
        | [a, b], _ => exact ⟨a, b, rfl⟩
      have ha := okv_tup_mem h (show a ∈ [a, b] by simp)
      have hb := okv_tup_mem h (show b ∈ [a, b] by simp)
      rw [show factB (.tup [a, b]) = (nameB a && (if isRule a then rule2B b else rowB b)) from rfl]
      have t1 : bOr (bNot (bTru (eAr isiD (aCons (eVar 0) (aCons (eC (.ty "tuple")) aNil))))) (bOr (bTest (eBin neD (eAr lenD (aCons (eVar 0) aNil)) (eC (.int 2)))) (bOr (bNot (bTru (eCall 1 G_l_is_name (aCons (eBin ixD (eVar 0) (eC (.int 0))) aNil)))) (bNot (bTru (eAr isiD (aCons (eBin ixD (eVar 0) (eC (.int 1))) (aCons (eC (.ty "tuple")) aNil))))))) [some (.tup [a, b]), none] m = .ok (!nameB a || !isTupB b) m :=
        bv_or (p := false) (bv_not (p := true) (bv_trub (ev_ar2 rfl rfl (isi_tup h)))) fun _ => bv_or (p := false) (bv_test (ev_bin (ev_ar1 rfl rfl) rfl neD_int)) fun _ => bv_or (bv_not (bv_trub (ev_call1 (ev_bin rfl rfl rfl) (l_is_name_eq ha))) ) fun _ => bv_not (bv_trub (ev_ar2 (ev_bin rfl rfl rfl) rfl (isi_tup hb)))
      cases hn : nameB a with
      | false => exact sv_seqR (sv_ifT (by rw [hn] at t1; exact t1) rfl)
      | true =>
        obtain ⟨x, rfl⟩ := name_str hn
        cases htb : isTupB b with
        | false =>
          rw [row_no htb, rule2_no (show szB 2 2 b = false by cases b <;> first | rfl | cases htb), ite_self]
          exact sv_seqR (sv_ifT (by rw [hn, htb] at t1; exact t1) rfl)
        | true =>
          refine sv_seq (sv_ifF (by rw [hn, htb] at t1; exact t1) rfl) ?_
          obtain ⟨r, rfl⟩ := isTup_of htb
          have t2 : bTest (eBin eqD (eBin ixD (eVar 0) (eC (.int 0))) (eC (.str "rule"))) [some (.tup [.str x, .tup r]), none] m = .ok (isRule (.str x)) m := bv_test (ev_bin (ev_bin rfl rfl rfl) rfl (eqD_str (okv_str ha).1 (by decide +kernel)))
          cases hr : isRule (.str x) with
          | false =>
            refine sv_seq (sv_ifF (by rw [hr] at t2; exact t2) rfl) (sv_ret ?_)
            rw [show (if false = true then rule2B (.tup r) else rowB (.tup r)) = ((decide (1 ≤ (r.length : Int)) && decide ((r.length : Int) ≤ 5)) && r.all cellB) from rfl]
            exact and_bl (b := (decide (1 ≤ (r.length : Int)) && decide ((r.length : Int) ≤ 5))) (b2 := r.all cellB) (ev_chain (b := .int r.length) rfl (ev_ar1 (ev_bin rfl rfl rfl) rfl) rfl rfl rfl) fun _ => all_map (i := 1) (m := m) (l := r) (ρ := [some (.tup [.str x, .tup r]), none]) (F := eCall 1 G_l_is_worth (aCons (eVar 1) aNil)) cellB (iSeq_tup (ev_bin rfl rfl rfl)) (fun y hy => ev_call1 rfl (l_is_worth_eq (okv_tup_mem hb hy))) (okv_tup_len hb)
          | true =>
            refine sv_seqR (sv_ifT (by rw [hr] at t2; exact t2) (sv_ret ((and_bl (b := decide ((r.length : Int) = 2)) (b2 := rule2B (.tup r)) (ev_bin (ev_ar1 (ev_bin rfl rfl rfl) rfl) rfl eqD_int) fun hi => ?_).trans ?_)))
            · obtain ⟨c, e, rfl⟩ : ∃ c e, r = [c, e] := by
                have := of_decide_eq_true hi
                match r, this with
                | [c, e], _ => exact ⟨c, e, rfl⟩
                | [], h => cases h
                | [_], h => cases h
                | _ :: _ :: _ :: _, h => simp at h; omega
              have hc := okv_tup_mem hb (show c ∈ [c, e] by simp)
              have hd := okv_tup_mem hb (show e ∈ [c, e] by simp)
              exact and_bl (ev_call1 (ev_bin (ev_bin rfl rfl rfl) rfl rfl) (l_is_name_eq hc)) fun _ => ev_call1 (ev_bin (ev_bin rfl rfl rfl) rfl rfl) (l_is_text_eq hd)
            · cases hb2 : decide ((r.length : Int) = 2) with
              | true => rfl
              | false =>
                have : rule2B (.tup r) = false := by
                  have := of_decide_eq_false hb2
                  match r, this with
                  | [], _ => rfl
                  | [_], _ => rfl
                  | [_, _], h => exact absurd rfl h
                  | _ :: _ :: _ :: _, _ => rfl
                rw [if_pos rfl, this]
                rfl
    · have hf : factB (.tup l) = false := by
        match l, h2 with
        | [], _ => rfl
        | [_], _ => rfl
        | [_, _], h => exact absurd rfl h
        | _ :: _ :: _ :: _, _ => rfl
      rw [hf]
      refine sv_seqR (sv_ifT (bv_or (p := false) (q := true) (bv_not (p := true) (bv_trub (ev_ar2 rfl rfl (isi_tup h)))) fun _ => bv_or (p := true) (q := true) (bv_test (ev_bin (ev_ar1 rfl rfl) rfl (neD_int.trans ?_))) fun z => nomatch z) rfl)
      rw [decide_eq_false (show ¬ ((l.length : Int) = 2) by omega)]
      rfl
end
end K27


namespace K27
open PySem PySem.Spec L2 DL
open PyProof.Rows hiding St pairD intD cutD
section
variable {n b : Nat} {m : List C}
theorem mem_prime {x : D} (h : x ∈ [D.int 1009, .int 1013, .int 10007, .int 1000003, .int 2147483647, .int 2305843009213693951, .int 618970019642690137449562111]) : okv x = true ∧ primeB x = true := by
  simp only [List.mem_cons, List.not_mem_nil, or_false] at h
  rcases h with rfl | rfl | rfl | rfl | rfl | rfl | rfl <;> exact ⟨by decide +kernel, by decide +kernel⟩
theorem prime_gets (h : Hand n b m) (hb : b < 1000000) : ∃ p m', G_l_prime [.cell n] m = .ok (.int p) m' ∧ okv (.int p) = true ∧ primeB (.int p) = true ∧ Hand n (b + 1) m' := by
  obtain ⟨x, m', e, hx, hh⟩ := some_gets somes h hb (l := [D.int 1009, .int 1013, .int 10007, .int 1000003, .int 2147483647, .int 2305843009213693951, .int 618970019642690137449562111]) (by simp) (by decide +kernel)
  obtain ⟨h1, h2⟩ := mem_prime hx
  obtain ⟨p, rfl, _, _⟩ := prime_of h2
  exact ⟨p, m', fn_ret (ev_call2 rfl rfl e), h1, h2, hh⟩
def oddP : List D := [.int 999, .int 1000, .int (170141183460469231731687303715884105728 - 1), .int 170141183460469231731687303715884105728, .int (170141183460469231731687303715884105728 + 1), .bl true, .non, .str "1009", .int (0 - 1009), .tup [.int 1009], .int 1009, .int 1013, .int 2, .int (10 ^ 39)]
theorem mem_oddP {x : D} (h : x ∈ oddP) : okv x = true := by
  unfold oddP at h
  simp only [List.mem_cons, List.not_mem_nil, or_false] at h
  rcases h with rfl | rfl | rfl | rfl | rfl | rfl | rfl | rfl | rfl | rfl | rfl | rfl | rfl | rfl <;> decide +kernel
theorem odd_prime_gets (h : Hand n b m) (hb : b < 1000000) : ∃ x m', G_l_odd_prime [.cell n] m = .ok x m' ∧ okv x = true ∧ Hand n (b + 1) m' := by
  obtain ⟨x, m', e, hx, hh⟩ := some_gets somes h hb (l := oddP) (by unfold oddP; simp) (by decide +kernel)
  refine ⟨x, m', fn_rt (sv_seq (sv_set rfl) (sv_seq (sv_set (d := .lst oddP) ?_) (sv_ret (ev_call2 rfl rfl e)))), mem_oddP hx, hh⟩
  exact ev_lst (ev_cons rfl (ev_cons rfl (ev_cons rfl (ev_cons rfl (ev_cons rfl (ev_cons rfl (ev_cons rfl (ev_cons rfl (ev_cons rfl (ev_cons rfl (ev_cons rfl (ev_cons rfl (ev_cons rfl (ev_cons (ev_bin rfl rfl (by rw [powD_int]; rfl)) rfl)))))))))))))) (by decide +kernel)
theorem deep_gets (h : Hand n b m) (hb : b < 1000000 - 100) : ∃ x m', G_l_deep [.cell n] m = .ok x m' ∧ okv x = true ∧ Hand n (b + 40) m' := by
  obtain ⟨i, m1, e1, i0, i1, h1⟩ := draw_gets (k := 5) draws (h.app (g := [C.dead])) (by omega) (by omega) (by omega)
  obtain ⟨x, hx, ex⟩ := ix_lt (m := m1) (l := [D.non, .str "a", .int (-1), .dic [] [], .bl true]) i0 (by simpa using i1)
  have okx : okv x = true := by
    simp only [List.mem_cons, List.not_mem_nil, or_false] at hx
    rcases hx with rfl | rfl | rfl | rfl | rfl <;> decide +kernel
  obtain ⟨k, m2, e2, k0, k1, h2⟩ := draw_gets (k := 28) draws h1 (by omega) (by omega) (by omega)
  have hr := ev_range1 (ρ := [some (.cell n), some x, none]) (m := m1) (m1 := m2) (k := 1 + k) (G := aCons (eBin addD (eC (.int 1)) (eCall 2 G_l_draw (aCons (eVar 0) (aCons (eC (.int 28)) aNil)))) aNil) (ev_cons (ev_bin rfl (ev_call2 rfl rfl e2) rfl) rfl) (by omega) (by omega)
  obtain ⟨ρ', m', el, y, o, rfl, oky, j, hj, hh⟩ := loop_inv (g := gN 2) (B := sSet 1 (eBin ixD (eLst (aCons (eTup (aCons (eVar 1) aNil)) (aCons (eLst (aCons (eVar 1) aNil)) (aCons (eDisp (pCons (eC (.int 0)) (eVar 1) pNil)) aNil)))) (eCall 2 G_l_draw (aCons (eVar 0) (aCons (eC (.int 3)) aNil)))))
    (fun ds ρ m => ∃ y o, ρ = [some (.cell n), some y, o] ∧ okv y = true ∧ ∃ j, j + ds.length ≤ 28 ∧ Hand n (b + 2 + j) m) (fun d ds ρ m ⟨y, o, e, oky, j, hj, hh⟩ => by
      subst e
      rw [List.length_cons] at hj
      obtain ⟨i, m1, e1, i0, i1, h1⟩ := draw_gets (k := 3) draws hh (by omega) (by omega) (by omega)
      obtain ⟨z, hz, ez⟩ := ix_lt (m := m1) (l := [D.tup [y], .lst [y], .dic [.inl 0] [y]]) i0 (by simpa using i1)
      refine ⟨_, _, _, rfl, sv_set (ev_bin rfl (ev_call2 rfl rfl e1) ez), z, _, rfl, ?_, j + 1, by omega, h1⟩
      simp only [List.mem_cons, List.not_mem_nil, or_false] at hz
      rcases hz with rfl | rfl | rfl
      · exact okv_tup (by simp [oky]) (by simp)
      · exact okv_lst (by simp [oky]) (by simp)
      · simp [okv, okvL, oky]) (l := rangeD 0 (1 + k).toNat) ⟨x, none, rfl, okx, 0, by rw [len_range]; omega, h2⟩
  exact ⟨y, m', fn_rt (sv_seq (sv_set (ev_bin (ev_lst (ev_cons rfl (ev_cons rfl (ev_cons rfl (ev_cons ev_dic0 (ev_cons rfl rfl))))) (by decide)) (ev_call2 rfl rfl e1) ex)) (sv_seq (sv_for hr el) (sv_ret rfl))), oky, hh.mono (by omega)⟩
def oddL (z : D) : List D := [.non, .bl true, .bl false, .int 0, .int (-1), .int 999, .int (1 * 2 ^ 63), .str "p", .str "", .tup [], .lst [], .dic [] [], .tup [.int 1], .tup [.str "a"], z]
theorem mem_odd {x z : D} (hz : okv z = true) (h : x ∈ oddL z) : okv x = true := by
  unfold oddL at h
  simp only [List.mem_cons, List.not_mem_nil, or_false] at h
  rcases h with rfl | rfl | rfl | rfl | rfl | rfl | rfl | rfl | rfl | rfl | rfl | rfl | rfl | rfl | rfl <;> first | exact hz | decide +kernel
theorem odd_gets (h : Hand n b m) (hb : b < 1000000 - 200) : ∃ x m', G_l_odd [.cell n] m = .ok x m' ∧ okv x = true ∧ Hand n (b + 50) m' := by
  obtain ⟨z, m1, e1, okz, h1⟩ := deep_gets (h.app (g := [C.dead])) (by omega)
  obtain ⟨x, m', e, hx, hh⟩ := some_gets somes h1 (by omega) (l := oddL z) (by unfold oddL; simp) (by unfold oddL; simp)
  refine ⟨x, m', fn_ret (ev_call2 (b := .lst (oddL z)) rfl (ev_lst ?_ (by unfold oddL; simp)) e), mem_odd okz hx, hh.mono (by omega)⟩
  exact ev_cons rfl (ev_cons rfl (ev_cons rfl (ev_cons rfl (ev_cons rfl (ev_cons rfl (ev_cons rfl (ev_cons rfl (ev_cons rfl (ev_cons rfl (ev_cons rfl (ev_cons ev_dic0 (ev_cons rfl (ev_cons rfl (ev_cons (ev_call1 rfl e1) rfl))))))))))))))
end
end K27


namespace K27
open PySem PySem.Spec L2 DL
open PyProof.Rows hiding St pairD intD cutD
section
variable {n b : Nat} {m : List C}
def wordL (z : D) : List D := [.str "", .str "a", .str "ab", .str "it's", .str "~", .str "b c", .str "x~'", .str "9", .str "A", z]
def numL (i j : Int) : List D := [.int i, .int (j - 30), .int (10 ^ 20 - 1), .int (1 - 10 ^ 20), .int 0, .int (10 ^ 30)]
theorem strOk_abs {i : Int} (h : i.natAbs < 1000000000000000000000000000000000000000000000000000000000000) : DL.strOk i = true := by
  have := log2_le (show i.natAbs < 2 ^ 200 by omega)
  unfold DL.strOk
  exact decide_eq_true (by omega)
theorem worth_gets (h : Hand n b m) (hb : b < 1000000 - 200) : ∃ x m', G_l_worth [.cell n] m = .ok x m' ∧ okv x = true ∧ cellB x = true ∧ Hand n (b + 5) m' := by
  obtain ⟨i, m1, e1, i0, i1, h1⟩ := draw_gets (k := 20) draws h (by omega) (by omega) (by omega)
  obtain ⟨j, m2, e2, j0, j1, h2⟩ := draw_gets (k := 3) draws h1 (by omega) (by omega) (by omega)
  have hz : okv (.str (repS "'" (1 + i).toNat)) = true ∧ cellB (.str (repS "'" (1 + i).toNat)) = true := by
    have hm : ∀ c ∈ (repS "'" (1 + i).toNat).cps.toList, c = 39 := fun c hc => by
      have := mem_repS hc
      rw [show ("'" : Str).cps.toList = [39] from rfl] at this
      simpa using this
    have hl : (repS "'" (1 + i).toNat).length ≤ 20 := by
      rw [repS_len, show ("'" : Str).length = 1 from rfl]
      omega
    constructor
    · unfold okv
      rw [Bool.and_eq_true]
      exact ⟨strOk_of fun c hc => by have := hm c hc; omega, decide_eq_true (by omega)⟩
    · show (false || (decide _ && List.all _ _)) = true
      rw [decide_eq_true hl]
      show List.all _ _ = true
      exact List.all_eq_true.mpr fun c hc => by rw [hm c hc]; rfl
  have e0 : eLst (aCons (eC (.str "")) (aCons (eC (.str "a")) (aCons (eC (.str "ab")) (aCons (eC (.str "it's")) (aCons (eC (.str "~")) (aCons (eC (.str "b c")) (aCons (eC (.str "x~'")) (aCons (eC (.str "9")) (aCons (eC (.str "A")) (aCons (eBin mulAD (eC (.str "'")) (eBin addD (eC (.int 1)) (eCall 2 G_l_draw (aCons (eVar 0) (aCons (eC (.int 20)) aNil))))) aNil)))))))))) [some (.cell n), none] m = .ok (.lst (wordL (.str (repS "'" (1 + i).toNat)))) m1 :=
    ev_lst (ev_cons rfl (ev_cons rfl (ev_cons rfl (ev_cons rfl (ev_cons rfl (ev_cons rfl (ev_cons rfl (ev_cons rfl (ev_cons rfl (ev_cons (ev_bin rfl (ev_bin rfl (ev_call2 rfl rfl e1) rfl) (rep_eq (by omega) (by omega) (by decide))) rfl)))))))))) (by unfold wordL; simp)
  have ej : bTest (eBin eqD (eCall 2 G_l_draw (aCons (eVar 0) (aCons (eC (.int 3)) aNil))) (eC (.int 0))) [some (.cell n), some (.lst (wordL (.str (repS "'" (1 + i).toNat))))] m1 = .ok (decide (j = 0)) m2 := bv_test (ev_bin (ev_call2 rfl rfl e2) rfl eqD_int)
  by_cases hj : j = 0
  · obtain ⟨x, m', e, hx, hh⟩ := some_gets somes h2 (by omega) (l := wordL (.str (repS "'" (1 + i).toNat))) (by unfold wordL; simp) (by unfold wordL; simp)
    rw [decide_eq_true hj] at ej
    refine ⟨x, m', fn_rt (sv_seq (sv_set e0) (sv_seqR (sv_ifT ej (sv_ret (ev_call2 rfl rfl e))))), ?_, ?_, hh.mono (by omega)⟩
    all_goals
      unfold wordL at hx
      simp only [List.mem_cons, List.not_mem_nil, or_false] at hx
      rcases hx with rfl | rfl | rfl | rfl | rfl | rfl | rfl | rfl | rfl | rfl <;> first | exact hz.1 | exact hz.2 | decide +kernel
  · obtain ⟨k, m3, e3, k0, k1, h3⟩ := draw_gets (k := 9) draws h2 (by omega) (by omega) (by omega)
    obtain ⟨l, m4, e4, l0, l1, h4⟩ := draw_gets (k := 60) draws h3 (by omega) (by omega) (by omega)
    obtain ⟨x, m', e, hx, hh⟩ := some_gets somes h4 (by omega) (l := numL k l) (by unfold numL; simp) (by unfold numL; simp)
    rw [decide_eq_false hj] at ej
    refine ⟨x, m', fn_rt (sv_seq (sv_set e0) (sv_seq (sv_ifF ej rfl) (sv_ret (ev_call2 (b := .lst (numL k l)) rfl (ev_lst ?_ (by unfold numL; simp)) e)))), ?_, ?_, hh.mono (by omega)⟩
    · exact ev_cons (ev_call2 rfl rfl e3) (ev_cons (ev_bin (ev_call2 rfl rfl e4) rfl rfl) (ev_cons (ev_bin (ev_bin rfl rfl (by rw [powD_int]; rfl)) rfl rfl) (ev_cons (ev_bin rfl (ev_bin rfl rfl (by rw [powD_int]; rfl)) rfl) (ev_cons rfl (ev_cons (ev_bin rfl rfl (by rw [powD_int]; rfl)) rfl)))))
    all_goals
      unfold numL at hx
      simp only [List.mem_cons, List.not_mem_nil, or_false] at hx
      rcases hx with rfl | rfl | rfl | rfl | rfl | rfl <;> first | rfl | decide +kernel | (show DL.strOk _ = true; exact strOk_abs (by omega))
def textL : List Nat := [32, 126, 39, 97, 90, 48, 10, 95, 33, 125, 44, 40]
theorem text_gets (h : Hand n b m) (hb : b < 1000000 - 3000) : ∃ x m', G_l_text [.cell n] m = .ok (.str x) m' ∧ okv (.str x) = true ∧ textB (.str x) = true ∧ Hand n (b + 2010) m' := by
  obtain ⟨i, m1, e1, i0, i1, h1⟩ := draw_gets (k := 4) draws h (by omega) (by omega) (by omega)
  have hmany : ∃ k m2, eIf (bTest (eBin eqD (eCall 2 G_l_draw (aCons (eVar 0) (aCons (eC (.int 4)) aNil))) (eC (.int 0)))) (eCall 2 G_l_some (aCons (eVar 0) (aCons (eLst (aCons (eC (.int 0)) (aCons (eC (.int 1)) (aCons (eC (.int 12)) (aCons (eC (.int 200)) (aCons (eC (.int 2000)) aNil)))))) aNil))) (eCall 2 G_l_draw (aCons (eVar 0) (aCons (eC (.int 9)) aNil))) [some (.cell n), some (.lst (textL.map fun c => D.str (one c))), none, none] m = .ok (.int k) m2 ∧ 0 ≤ k ∧ k ≤ 2000 ∧ Hand n (b + 2) m2 := by
    have ej : bTest (eBin eqD (eCall 2 G_l_draw (aCons (eVar 0) (aCons (eC (.int 4)) aNil))) (eC (.int 0))) [some (.cell n), some (.lst (textL.map fun c => D.str (one c))), none, none] m = .ok (decide (i = 0)) m1 := bv_test (ev_bin (ev_call2 rfl rfl e1) rfl eqD_int)
    by_cases hi : i = 0
    · obtain ⟨x, m', e, hx, hh⟩ := some_gets somes h1 (by omega) (l := [D.int 0, .int 1, .int 12, .int 200, .int 2000]) (by simp) (by simp)
      have hx2 : ∃ k, x = .int k ∧ 0 ≤ k ∧ k ≤ 2000 := by
        simp only [List.mem_cons, List.not_mem_nil, or_false] at hx
        rcases hx with rfl | rfl | rfl | rfl | rfl <;> exact ⟨_, rfl, by omega, by omega⟩
      obtain ⟨k, rfl, k0, k1⟩ := hx2
      exact ⟨k, m', ev_if ej (fun _ => ev_call2 rfl rfl e) (fun z => absurd hi (of_decide_eq_false z)), k0, k1, hh⟩
    · obtain ⟨k, m', e, k0, k1, hh⟩ := draw_gets (k := 9) draws h1 (by omega) (by omega) (by omega)
      exact ⟨k, m', ev_if ej (fun z => absurd (of_decide_eq_true z) hi) (fun _ => ev_call2 rfl rfl e), k0, by omega, hh⟩
  obtain ⟨k, m2, e2, k0, k1, h2⟩ := hmany
  obtain ⟨ys, m', el, xs, rfl, hxs, hlen, hh⟩ := lc_inv (g := gN 3) (vs := [3]) (ρ := [some (.cell n), some (.lst (textL.map fun c => D.str (one c))), some (.int k), none]) (F := eCall 2 G_l_some (aCons (eVar 0) (aCons (eVar 1) aNil)))
    (fun ys ds m => ∃ xs : List Nat, ys = xs.map (fun c => D.str (one c)) ∧ (∀ c ∈ xs, c ∈ textL) ∧ xs.length + ds.length = k.toNat ∧ Hand n (b + 2 + xs.length) m) (ev_range1 (G := aCons (eVar 2) aNil) (m := m2) (m1 := m2) (k := k) rfl (by omega) (by omega)) ⟨[], rfl, by simp, by rw [len_range]; simp, h2⟩
    (fun ys d ds m ⟨xs, e, hx, hl, hh⟩ => by
      rw [List.length_cons] at hl
      obtain ⟨x, m', e1, hx1, h1⟩ := some_gets somes hh (by omega) (l := textL.map fun c => D.str (one c)) (by simp [textL]) (by decide)
      obtain ⟨c, hc, rfl⟩ := List.mem_map.mp hx1
      refine ⟨_, _, _, rfl, ev_call2 rfl rfl e1, xs ++ [c], by rw [e]; simp, fun z hz => ?_, by rw [List.length_append, List.length_singleton]; omega, by rw [List.length_append, List.length_singleton]; exact h1⟩
      rcases List.mem_append.mp hz with hz | hz
      · exact hx z hz
      · rw [List.mem_singleton.mp hz]; exact hc) (fun ys m ⟨xs, e, _, hl, _⟩ => by rw [e, List.length_map]; simp at hl; omega)
  have el2 : (xs.map fun c => D.str (one c)) = (xs.map one).map D.str := by rw [List.map_map]; rfl
  rw [el2] at el
  have hlk : xs.length ≤ 2000 := by simp at hlen; omega
  have ej := ev_join (a := "") el (joinOk_le (k := 1) (n := 2000) (fun y hy => by
    obtain ⟨c, _, rfl⟩ := List.mem_map.mp hy
    exact Nat.le_refl 1) (by rw [List.length_map]; exact hlk) (by decide))
  have et : Txt.join "" (xs.map one) = SX.S xs := str_ext (by
    rw [tl_join, show ("" : Str).cps.toList = [] from rfl, joinL_nil, List.map_map]
    show (xs.map fun c => [c]).flatten = xs
    clear el ej el2 hlk hlen hh hxs
    induction xs with
    | nil => rfl
    | cons c xs ih => rw [List.map_cons, List.flatten_cons, ih]; rfl)
  rw [et] at ej
  have hall : ∀ c ∈ xs, textC c = true ∧ c < 1114112 := fun c hc => by
    have := hxs c hc
    unfold textL at this
    simp only [List.mem_cons, List.not_mem_nil, or_false] at this
    rcases this with rfl | rfl | rfl | rfl | rfl | rfl | rfl | rfl | rfl | rfl | rfl | rfl <;> exact ⟨by decide, by decide⟩
  refine ⟨SX.S xs, m', fn_rt (sv_seq (sv_set (d := .lst (textL.map fun c => D.str (one c))) rfl) (sv_seq (sv_set e2) (sv_ret ej))), ?_, ?_, hh.mono (by omega)⟩
  · unfold okv
    rw [Bool.and_eq_true]
    exact ⟨strOk_of fun c hc => (hall c hc).2, decide_eq_true (by rw [SX.S_len]; omega)⟩
  · exact List.all_eq_true.mpr fun c hc => (hall c hc).1
end
end K27


namespace K27
open PySem PySem.Spec L2 DL
open PyProof.Rows hiding St pairD intD cutD
section
variable {n b : Nat} {m : List C}
def nameL : List D := [.str "a", .str "b", .str "b", .str "bag", .str "q", .str "zz"]
def manyK : List L2.Key := [.inr "a", .inr "b", .inr "bag", .inr "q", .inr "zz"]
def manyV (j : Int) : List D := [.int 1, .int 2, .int 3, .int (1 + j), .int 2]
theorem many_ix {j : Int} {x : D} (h0 : 0 ≤ j) (h1 : j < 5) (h : x ∈ nameL) : ∃ k, ixD (.dic manyK (manyV j)) x m = .ok (.int k) m ∧ 1 ≤ k ∧ k ≤ 5 := by
  unfold nameL at h
  simp only [List.mem_cons, List.not_mem_nil, or_false] at h
  rcases h with rfl | rfl | rfl | rfl | rfl | rfl
  · exact ⟨1, rfl, by omega, by omega⟩
  · exact ⟨2, rfl, by omega, by omega⟩
  · exact ⟨2, rfl, by omega, by omega⟩
  · exact ⟨3, rfl, by omega, by omega⟩
  · exact ⟨1 + j, rfl, by omega, by omega⟩
  · exact ⟨2, rfl, by omega, by omega⟩
theorem name_facts {x : D} (h : x ∈ nameL) : okv x = true ∧ nameB x = true ∧ isRule x = false := by
  unfold nameL at h
  simp only [List.mem_cons, List.not_mem_nil, or_false] at h
  rcases h with rfl | rfl | rfl | rfl | rfl | rfl <;> exact ⟨by decide +kernel, by decide +kernel, by decide +kernel⟩
def titleL : List D := [.str "a", .str "b", .str "zz", .str "rule"]
def ruleL : List D := [.str "p(?0) if q(?0)", .str "p(?0) if q(?0), not r(?0, _)", .str "p('it~'s') if q(1)", .str ""]
theorem title_facts {x : D} (h : x ∈ titleL) : okv x = true ∧ nameB x = true := by
  unfold titleL at h
  simp only [List.mem_cons, List.not_mem_nil, or_false] at h
  rcases h with rfl | rfl | rfl | rfl <;> exact ⟨by decide +kernel, by decide +kernel⟩
theorem rule_facts {x : D} (h : x ∈ ruleL) : okv x = true ∧ textB x = true := by
  unfold ruleL at h
  simp only [List.mem_cons, List.not_mem_nil, or_false] at h
  rcases h with rfl | rfl | rfl | rfl <;> exact ⟨by decide +kernel, by decide +kernel⟩
theorem worths_get {k : Int} {e1 e2 e3 : D} {o : Option D} {e0 : Option D} (h : Hand n b m) (hb : b < 1000000 - 1000) (k0 : 1 ≤ k) (k1 : k ≤ 5) :
    ∃ ys m', eAr tupleD (aCons (eLc (iRng1 (aCons (eVar 3) aNil)) (gN 4) [4] bYes (eCall 1 G_l_worth (aCons (eVar 0) aNil))) aNil) [some (.cell n), e0, some e2, some (.int k), o] m = .ok (.tup ys) m' ∧ (∀ y ∈ ys, okv y = true ∧ cellB y = true) ∧ 1 ≤ ys.length ∧ ys.length ≤ 5 ∧ Hand n (b + 25) m' := by
  obtain ⟨ys, m', el, hys, hl, hh⟩ := lc_inv (g := gN 4) (vs := [4]) (ρ := [some (.cell n), e0, some e2, some (.int k), o]) (F := eCall 1 G_l_worth (aCons (eVar 0) aNil))
    (fun ys ds m => (∀ y ∈ ys, okv y = true ∧ cellB y = true) ∧ ys.length + ds.length = k.toNat ∧ Hand n (b + 5 * ys.length) m) (ev_range1 (G := aCons (eVar 3) aNil) (m := m) (m1 := m) (k := k) rfl (by omega) (by omega)) ⟨by simp, by rw [len_range]; simp, h⟩
    (fun ys d ds m ⟨hy, hl, hh⟩ => by
      rw [List.length_cons] at hl
      obtain ⟨x, m', e1, h1, h2, h3⟩ := worth_gets hh (by omega)
      refine ⟨_, _, _, rfl, ev_call1 rfl e1, fun z hz => ?_, by rw [List.length_append, List.length_singleton]; omega, by rw [List.length_append, List.length_singleton]; exact h3.mono (by omega)⟩
      rcases List.mem_append.mp hz with hz | hz
      · exact hy z hz
      · rw [List.mem_singleton.mp hz]; exact ⟨h1, h2⟩) (fun ys m ⟨_, hl, _⟩ => by simp at hl; omega)
  simp at hl
  exact ⟨ys, m', ev_ar1 el rfl, hys, by omega, by omega, hh.mono (by omega)⟩
theorem fact_gets (h : Hand n b m) (hb : b < 1000000 - 2000) : ∃ x m', G_l_fact [.cell n] m = .ok x m' ∧ okv x = true ∧ factB x = true ∧ (∀ a l, x = .tup [.str a, .tup l] → 1 ≤ l.length) ∧ Hand n (b + 40) m' := by
  obtain ⟨i, m1, e1, i0, i1, h1⟩ := draw_gets (k := 9) draws h (by omega) (by omega) (by omega)
  have ej : bTest (eBin eqD (eCall 2 G_l_draw (aCons (eVar 0) (aCons (eC (.int 9)) aNil))) (eC (.int 0))) (startD 5 [.cell n]) m = .ok (decide (i = 0)) m1 := bv_test (ev_bin (ev_call2 rfl rfl e1) rfl eqD_int)
  by_cases hi : i = 0
  · rw [decide_eq_true hi] at ej
    obtain ⟨t, m2, e2, ht, h2⟩ := some_gets somes h1 (by omega) (l := titleL) (by unfold titleL; simp) (by unfold titleL; simp)
    obtain ⟨r, m3, e3, hr, h3⟩ := some_gets somes h2 (by omega) (l := ruleL) (by unfold ruleL; simp) (by unfold ruleL; simp)
    obtain ⟨t1, t2⟩ := title_facts ht
    obtain ⟨r1, r2⟩ := rule_facts hr
    refine ⟨.tup [.str "rule", .tup [t, r]], m3, fn_rt (sv_seqR (sv_ifT ej (sv_seq (sv_set (d := .lst ruleL) rfl) (sv_ret (ev_tup (ev_cons rfl (ev_cons (ev_tup (ev_cons (ev_call2 (b := .lst titleL) rfl rfl e2) (ev_cons (ev_call2 rfl rfl e3) rfl)) (show 2 ≤ 100000 by decide)) rfl)) (show 2 ≤ 100000 by decide)))))), ?_, ?_, ?_, h3.mono (by omega)⟩
    · refine okv_tup (fun d hd => ?_) (show 2 ≤ 100000 by decide)
      simp only [List.mem_cons, List.not_mem_nil, or_false] at hd
      rcases hd with rfl | rfl
      · decide +kernel
      · exact okv_tup (fun d hd => by
          simp only [List.mem_cons, List.not_mem_nil, or_false] at hd
          rcases hd with rfl | rfl
          · exact t1
          · exact r1) (show 2 ≤ 100000 by decide)
    · show (nameB (.str "rule") && (if isRule (.str "rule") then nameB t && textB r else rowB (.tup [t, r]))) = true
      rw [show nameB (.str "rule") = true by decide +kernel, show isRule (.str "rule") = true by decide +kernel, t2, r2]
      rfl
    · intro a l e
      cases e
      show 1 ≤ 2
      decide
  · rw [decide_eq_false hi] at ej
    obtain ⟨x, m2, e2, hx, h2⟩ := some_gets somes h1 (by omega) (l := nameL) (by unfold nameL; simp) (by unfold nameL; simp)
    obtain ⟨j, m3, e3, j0, j1, h3⟩ := draw_gets (k := 5) draws h2 (by omega) (by omega) (by omega)
    obtain ⟨x1, x2, x3⟩ := name_facts hx
    obtain ⟨k, ek, k0, k1⟩ := many_ix (m := m3) j0 j1 hx
    obtain ⟨ys, m4, e4, hys, l0, l1, h4⟩ := worths_get (e2 := x) (e1 := x) (e3 := x) (o := none) (e0 := none) h3 (by omega) k0 k1
    have ed : eDisp (pCons (eC (.str "a")) (eC (.int 1)) (pCons (eC (.str "b")) (eC (.int 2)) (pCons (eC (.str "bag")) (eC (.int 3)) (pCons (eC (.str "q")) (eBin addD (eC (.int 1)) (eCall 2 G_l_draw (aCons (eVar 0) (aCons (eC (.int 5)) aNil)))) (pCons (eC (.str "zz")) (eC (.int 2)) pNil))))) [some (.cell n), none, some x, none, none] m2 = .ok (.dic manyK (manyV j)) m3 :=
      ev_disp (r := (manyK, manyV j)) (ev_pc rfl rfl (ev_pc rfl rfl (ev_pc rfl rfl (ev_pc rfl (ev_bin rfl (ev_call2 rfl rfl e3) rfl) (ev_pc rfl rfl rfl rfl) rfl) rfl) rfl) rfl) (show 5 ≤ 15 by decide) rfl
    refine ⟨.tup [x, .tup ys], m4, fn_rt (sv_seq (sv_ifF ej rfl) (sv_seq (sv_set (ev_call2 (b := .lst nameL) rfl rfl e2)) (sv_seq (sv_set (ev_bin ed rfl ek)) (sv_ret (ev_tup (ev_cons rfl (ev_cons e4 rfl)) (show 2 ≤ 100000 by decide)))))), ?_, ?_, ?_, h4.mono (by omega)⟩
    · refine okv_tup (fun d hd => ?_) (show 2 ≤ 100000 by decide)
      simp only [List.mem_cons, List.not_mem_nil, or_false] at hd
      rcases hd with rfl | rfl
      · exact x1
      · exact okv_tup (fun d hd => (hys d hd).1) (by omega)
    · rw [show factB (.tup [x, .tup ys]) = (nameB x && (if isRule x then rule2B (.tup ys) else rowB (.tup ys))) from rfl, x2, x3]
      show (szB 1 5 (.tup ys) && ys.all cellB) = true
      rw [show szB 1 5 (.tup ys) = (decide (1 ≤ (ys.length : Int)) && decide ((ys.length : Int) ≤ 5)) from rfl, decide_eq_true (by omega), decide_eq_true (by omega)]
      exact List.all_eq_true.mpr fun d hd => (hys d hd).2
    · intro a l e
      cases e
      exact l0
end
end K27


namespace K27
open PySem PySem.Spec L2 DL
open PyProof.Rows hiding St pairD intD cutD
section
variable {n b : Nat} {m : List C}
def bentR (a : Str) (l : List D) (c z : D) : List D := [.lst [.str a, .tup l], .tup [.str a, .lst l], .tup [.str a, .tup [c, .non]], .tup [.str a, .tup []], z]
def oddW : List D := [.bl true, .non, .str (repS "a" 21), .lst [.str "a"], .tup [.str "a"], .str "a\n", .str "b", .int 5]
theorem oddW_ok {x : D} (h : x ∈ oddW) : okv x = true := by
  unfold oddW at h
  simp only [List.mem_cons, List.not_mem_nil, or_false] at h
  rcases h with rfl | rfl | rfl | rfl | rfl | rfl | rfl | rfl <;> decide +kernel
def bent1 (a u : Str) (l r : List D) : List D := [.tup [.str a, .tup r], .tup [.str a, .tup []], .tup [.str a, .tup (List.replicate 6 l).flatten], .lst [.str a, .tup l], .tup [.str u, .tup l]]
def bent2 (a : Str) (l : List D) (z : D) : List D := [.tup [.str (a ++ "zzzzzzzzz"), .tup l], .tup [.str "", .tup l], .tup [.str a, .lst l], .tup [.str a, .tup l, .int 1], .tup [.int 1, .tup l], z]
theorem ok2 {x y : D} (hx : okv x = true) (hy : okv y = true) : okv (.tup [x, y]) = true := okv_tup (by simp [hx, hy]) (show 2 ≤ 100000 by decide)
theorem ok2l {x y : D} (hx : okv x = true) (hy : okv y = true) : okv (.lst [x, y]) = true := okv_lst (by simp [hx, hy]) (show 2 ≤ 100000 by decide)
theorem bent_gets {a : Str} {l : List D} (h : Hand n b m) (hb : b < 1000000 - 2000) (ha : okv (.str a) = true) (hn : nameB (.str a) = true) (hl : okv (.tup l) = true) (l1 : 1 ≤ l.length) (l5 : l.length ≤ 5) : ∃ x m', G_l_bent_fact [.cell n, .tup [.str a, .tup l]] m = .ok x m' ∧ okv x = true ∧ Hand n (b + 60) m' := by
  have hll : okv (.lst l) = true := okv_lst (fun d hd => okv_tup_mem hl hd) (by omega)
  have e0 : sAsg (eVar 1) (gT 2 (gsCons (gN 2) (gsCons (gN 3) gsNil))) (startD 7 [.cell n, .tup [.str a, .tup l]]) m = .nx [some (.cell n), some (.tup [.str a, .tup l]), some (.str a), some (.tup l), none, none, none] m := sv_asg rfl rfl
  have er : bTest (eBin eqD (eVar 2) (eC (.str "rule"))) [some (.cell n), some (.tup [.str a, .tup l]), some (.str a), some (.tup l), none, none, none] m = .ok (isRule (.str a)) m := bv_test (ev_bin rfl rfl (eqD_str (okv_str ha).1 (by decide +kernel)))
  cases hr : isRule (.str a) with
  | true =>
    rw [hr] at er
    obtain ⟨z, m1, e1, okz, h1⟩ := odd_gets h (by omega)
    obtain ⟨c, cs, rfl⟩ : ∃ c cs, l = c :: cs := by
      cases l with
      | nil => simp at l1
      | cons c cs => exact ⟨c, cs, rfl⟩
    obtain ⟨x, m2, e2, hx, h2⟩ := some_gets somes h1 (by omega) (l := bentR a (c :: cs) c z) (by unfold bentR; simp) (by unfold bentR; simp)
    refine ⟨x, m2, fn_rt (sv_seq e0 (sv_seqR (sv_ifT er (sv_ret (ev_call2 (b := .lst (bentR a (c :: cs) c z)) rfl (ev_lst (ev_cons (ev_ar1 rfl rfl) (ev_cons (ev_tup (ev_cons rfl (ev_cons (ev_ar1 rfl rfl) rfl)) (show 2 ≤ 100000 by decide)) (ev_cons (ev_tup (ev_cons rfl (ev_cons (ev_tup (ev_cons (ev_bin rfl rfl (by rw [ixD_tup, atI_0])) (ev_cons rfl rfl)) (show 2 ≤ 100000 by decide)) rfl)) (show 2 ≤ 100000 by decide)) (ev_cons rfl (ev_cons (ev_call1 rfl e1) rfl))))) (by unfold bentR; simp)) e2))))), ?_, h2.mono (by omega)⟩
    have hc := okv_tup_mem hl (show c ∈ c :: cs by simp)
    unfold bentR at hx
    simp only [List.mem_cons, List.not_mem_nil, or_false] at hx
    rcases hx with rfl | rfl | rfl | rfl | rfl
    · exact ok2l ha hl
    · exact ok2 ha hll
    · exact ok2 ha (ok2 hc rfl)
    · exact ok2 ha (by decide +kernel)
    · exact okz
  | false =>
    rw [hr] at er
    have low : ∀ c ∈ a.cps.toList, 97 ≤ c ∧ c ≤ 122 := fun c hc => by
      rw [show nameB (.str a) = ((decide (1 ≤ a.length) && decide (a.length ≤ 8)) && a.cps.toList.all lowC) from rfl, Bool.and_eq_true] at hn
      have := List.all_eq_true.mp hn.2 c hc
      unfold lowC at this
      rw [Bool.and_eq_true, decide_eq_true_eq, decide_eq_true_eq] at this
      exact this
    have a8 : a.length ≤ 8 := by
      rw [show nameB (.str a) = ((decide (1 ≤ a.length) && decide (a.length ≤ 8)) && a.cps.toList.all lowC) from rfl] at hn
      simp only [Bool.and_eq_true, decide_eq_true_eq] at hn
      exact hn.1.2
    obtain ⟨i, m1, e1, i0, i1, h1⟩ := draw_gets (k := (l.length : Int)) draws h (by omega) (by omega) (by omega)
    obtain ⟨t, m2, e2, ht, h2⟩ := some_gets somes h1 (by omega) (l := oddW) (by unfold oddW; simp) (by unfold oddW; simp)
    obtain ⟨z, m3, e3, okz, h3⟩ := odd_gets h2 (by omega)
    have okt := oddW_ok ht
    have hup : Txt.upper a = ⟨a.cps.map up1⟩ := upper_ascii fun c hc => by have := low c hc; omega
    have hu : okv (.str (Txt.upper a)) = true := by
      unfold okv
      rw [hup, Bool.and_eq_true]
      refine ⟨strOk_of fun c hc => ?_, decide_eq_true ?_⟩
      · rw [Array.toList_map] at hc
        obtain ⟨c', hc', rfl⟩ := List.mem_map.mp hc
        have := low c' hc'
        unfold up1
        split <;> omega
      · show (a.cps.map up1).size ≤ _
        rw [Array.size_map]
        show a.length ≤ _
        omega
    have hR : ((cutD l none (some i) ++ [t]) ++ cutD l (some (i + 1)) none).length ≤ 11 := by
      have c1 := len_cutD (l := l) (lo := none) (hi := some i)
      have c2 := len_cutD (l := l) (lo := some (i + 1)) (hi := none)
      rw [List.length_append, List.length_append, List.length_singleton]
      omega
    have okR : okv (.tup ((cutD l none (some i) ++ [t]) ++ cutD l (some (i + 1)) none)) = true := okv_tup (fun d hd => by
      rcases List.mem_append.mp hd with hd | hd
      · rcases List.mem_append.mp hd with hd | hd
        · exact okv_tup_mem hl (mem_cutD hd)
        · rw [List.mem_singleton.mp hd]; exact okt
      · exact okv_tup_mem hl (mem_cutD hd)) (by omega)
    obtain ⟨x, m4, e4, hx, h4⟩ := some_gets somes h3 (by omega) (l := bent1 a (Txt.upper a) l ((cutD l none (some i) ++ [t]) ++ cutD l (some (i + 1)) none) ++ bent2 a l z) (by unfold bent1; simp) (by unfold bent1 bent2; simp)
    have c1 := len_cutD (l := l) (lo := none) (hi := some i)
    have c2 := len_cutD (l := l) (lo := some (i + 1)) (hi := none)
    have aT : ∀ {m : List C} {l k : List D}, l.length + k.length ≤ 100000 → addD (.tup l) (.tup k) m = .ok (.tup (l ++ k)) m := fun h => by rw [addD_tup, if_pos (fits_small h)]
    have aL : ∀ {m : List C} {l k : List D}, l.length + k.length ≤ 100000 → addD (.lst l) (.lst k) m = .ok (.lst (l ++ k)) m := fun h => by rw [addD_lst, if_pos (fits_small h)]
    have mR : ∀ {m : List C}, mulAD (.tup l) (.int 6) m = .ok (.tup (List.replicate 6 l).flatten) m := fun {m} => by
      show (if l ≠ [] ∧ (2 : Int) ≤ 6 ∧ (6 : Int) ≤ 1000 ∧ l.length ≤ 1000 then R.ok (D.tup (List.replicate (6 : Int).toNat l).flatten) m else .no) = _
      rw [if_pos ⟨fun e => by rw [e] at l1; simp at l1, by omega, by omega, by omega⟩]
      rfl
    have up : ∀ {m : List C}, upperD (.str a) [] m = .ok (.str (Txt.upper a)) m := fun {m} => by
      show (if a.length ≤ 5592405 then R.ok (D.str (Txt.upper a)) m else .no) = _
      rw [if_pos (by omega)]
    refine ⟨x, m4, fn_rt (sv_seq e0 (sv_seq (sv_ifF er rfl) (sv_seq (sv_par (x := .int i) (y := t) (ev_cons (ev_call2 rfl (ev_ar1 rfl rfl) e1) (ev_cons (ev_call2 (b := .lst oddW) rfl (ev_lst (ev_cons rfl (ev_cons rfl (ev_cons (ev_bin rfl rfl (rep_eq (by omega) (by omega) (by decide))) (ev_cons rfl (ev_cons rfl (ev_cons rfl (ev_cons rfl (ev_cons rfl rfl)))))))) (by unfold oddW; simp)) e2) rfl)))
      (sv_seq (sv_set (m1 := m2) (d := .lst (bent1 a (Txt.upper a) l ((cutD l none (some i) ++ [t]) ++ cutD l (some (i + 1)) none))) (ev_lst ?_ (by unfold bent1; simp)))
      (sv_seq (sv_set (m1 := m3) (d := .lst (bent1 a (Txt.upper a) l ((cutD l none (some i) ++ [t]) ++ cutD l (some (i + 1)) none) ++ bent2 a l z)) (ev_bin rfl (ev_lst (l := bent2 a l z) (m1 := m3) ?_ (by unfold bent2; simp)) (aL (by unfold bent1 bent2; simp))))
      (sv_ret (ev_call2 rfl rfl e4))))))), ?_, h4.mono (by omega)⟩
    · refine ev_cons (ev_tup (ev_cons rfl (ev_cons (ev_bin (ev_bin (a := .tup (cutD l none (some i))) (b := .tup [t]) rfl rfl (aT ?_)) (b := .tup (cutD l (some (i + 1)) none)) rfl (aT ?_)) rfl)) (show 2 ≤ 100000 by decide)) (ev_cons rfl (ev_cons (ev_tup (ev_cons rfl (ev_cons (ev_bin rfl rfl mR) rfl)) (show 2 ≤ 100000 by decide)) (ev_cons (ev_ar1 rfl rfl) (ev_cons (ev_tup (ev_cons ?_ (ev_cons rfl rfl)) (show 2 ≤ 100000 by decide)) rfl))))
      · rw [List.length_singleton]; omega
      · rw [List.length_append, List.length_singleton]; omega
      · unfold eMt eVar aNil
        simp only [List.set_cons_zero, List.set_cons_succ, List.getElem?_cons_zero, List.getElem?_cons_succ, R.bind_ok, tagOf, if_true]
        exact up
    · exact ev_cons (ev_tup (ev_cons (ev_bin rfl rfl (addS (by show a.length + 9 ≤ _; omega))) (ev_cons rfl rfl)) (show 2 ≤ 100000 by decide)) (ev_cons rfl (ev_cons (ev_tup (ev_cons rfl (ev_cons (ev_ar1 rfl rfl) rfl)) (show 2 ≤ 100000 by decide)) (ev_cons (ev_bin rfl rfl (aT (show 2 + 1 ≤ 100000 by decide))) (ev_cons rfl (ev_cons (ev_call1 rfl e3) rfl)))))
    · unfold bent1 bent2 at hx
      simp only [List.cons_append, List.nil_append, List.mem_cons, List.not_mem_nil, or_false] at hx
      have okRep : okv (.tup (List.replicate 6 l).flatten) = true := okv_tup (fun d hd => by
        obtain ⟨k, hk, hd⟩ := List.mem_flatten.mp hd
        rw [List.eq_of_mem_replicate hk] at hd
        exact okv_tup_mem hl hd) (by simp [List.length_flatten]; omega)
      have okZ : okv (.str (a ++ "zzzzzzzzz")) = true := by
        unfold okv
        rw [Bool.and_eq_true]
        exact ⟨strOk_add (okv_str ha).1 (by decide +kernel), decide_eq_true (by rw [len_add]; show a.length + 9 ≤ _; omega)⟩
      rcases hx with rfl | rfl | rfl | rfl | rfl | rfl | rfl | rfl | rfl | rfl | rfl
      · exact ok2 ha okR
      · exact ok2 ha (by decide +kernel)
      · exact ok2 ha okRep
      · exact ok2l ha hl
      · exact ok2 hu hl
      · exact ok2 okZ hl
      · exact ok2 (by decide +kernel) hl
      · exact ok2 ha hll
      · exact okv_tup (fun d hd => by
          simp only [List.mem_cons, List.not_mem_nil, or_false] at hd
          rcases hd with rfl | rfl | rfl
          · exact ha
          · exact hl
          · decide +kernel) (show 3 ≤ 100000 by decide)
      · exact ok2 (by decide +kernel) hl
      · exact okz
end
end K27


namespace K27
open PySem PySem.Spec L2 DL
open PyProof.Rows hiding St pairD intD cutD
/-- what the classes say of each other -/
structure Facts (K : PySem.W.Frag) (cl : Str → Addr) : Prop where
  xP : ExcC K (cl "NoPrime")
  xT : ExcC K (cl "NoText")
  xF : ExcC K (cl "NoFact")
  vP : PySem.W.exmOne K (.ref (cl "NoPrime")) (.ref (cl "ViewError")) = some true
  vT : PySem.W.exmOne K (.ref (cl "NoText")) (.ref (cl "ViewError")) = some true
  vF : PySem.W.exmOne K (.ref (cl "NoFact")) (.ref (cl "ViewError")) = some true
  kPP : PySem.W.kitOne K (.ref (cl "NoPrime")) (.ref (cl "NoPrime")) = some true
  kPT : PySem.W.kitOne K (.ref (cl "NoPrime")) (.ref (cl "NoText")) = some false
  kPF : PySem.W.kitOne K (.ref (cl "NoPrime")) (.ref (cl "NoFact")) = some false
  kTP : PySem.W.kitOne K (.ref (cl "NoText")) (.ref (cl "NoPrime")) = some false
  kTT : PySem.W.kitOne K (.ref (cl "NoText")) (.ref (cl "NoText")) = some true
  kTF : PySem.W.kitOne K (.ref (cl "NoText")) (.ref (cl "NoFact")) = some false
  kFP : PySem.W.kitOne K (.ref (cl "NoFact")) (.ref (cl "NoPrime")) = some false
  kFT : PySem.W.kitOne K (.ref (cl "NoFact")) (.ref (cl "NoText")) = some false
  kFF : PySem.W.kitOne K (.ref (cl "NoFact")) (.ref (cl "NoFact")) = some true
section
variable {K : PySem.W.Frag} {cl : Str → Addr} {m m1 : List C} {th : Th} {d : D}
theorem word_let (h : th m = .ok d m1) : G_l_word K cl th m = .ok (.tup [.str "let", d]) m1 := by
  unfold G_l_word
  exact lamG_of fun L => fn_rt (sv_tryR (sv_ret (ev_tup (ev_cons rfl (ev_cons ((ev_act rfl).trans h) rfl)) (show 2 ≤ 100000 by decide))))
abbrev wordE : ES := eIf (bTest (eBin eqD (eMt "list" countD (eVar 2) (aCons (eC (.bl true)) aNil)) (eC (.int 1)))) (eBin ixD (eLst (aCons (eC (.str "prime")) (aCons (eC (.str "text")) (aCons (eC (.str "fact")) aNil)))) (eMt "list" indexD (eVar 2) (aCons (eC (.bl true)) aNil))) (eC (.str "odd"))
theorem ev_mt1 {t : String} {f : D → List D → List C → R D} {F Fa : ES} {ρ : DL.Env} {a o r : D} {m2 : List C} (ho : F ρ m = .ok o m) (ht : tagOf m o = some t) (ha : Fa ρ m = .ok a m) (hf : f o [a] m = .ok r m2) : eMt t f F (aCons Fa aNil) ρ m = .ok r m2 := by
  unfold eMt aCons aNil
  simp only [ho, ht, ha, R.bind_ok, if_true]
  exact hf
theorem w1 {a b : Option D} : wordE [a, b, some (.lst [.bl true, .bl false, .bl false])] m = .ok (.str "prime") m := by
  have c : countD (.lst [.bl true, .bl false, .bl false]) [.bl true] m = .ok (.int 1) m := by rfl
  have i : indexD (.lst [.bl true, .bl false, .bl false]) [.bl true] m = .ok (.int 0) m := by rfl
  exact ev_if (p := true) (bv_test ((ev_bin (ev_mt1 rfl rfl rfl c) rfl eqD_int).trans rfl)) (fun _ => ev_bin rfl (ev_mt1 rfl rfl rfl i) (by rw [ixD_lst, atI_0])) (fun z => nomatch z)
theorem w2 {a b : Option D} : wordE [a, b, some (.lst [.bl false, .bl true, .bl false])] m = .ok (.str "text") m := by
  have c : countD (.lst [.bl false, .bl true, .bl false]) [.bl true] m = .ok (.int 1) m := by rfl
  have i : indexD (.lst [.bl false, .bl true, .bl false]) [.bl true] m = .ok (.int 1) m := by rfl
  exact ev_if (p := true) (bv_test ((ev_bin (ev_mt1 rfl rfl rfl c) rfl eqD_int).trans rfl)) (fun _ => ev_bin rfl (ev_mt1 rfl rfl rfl i) (by rw [ixD_lst, atI_1])) (fun z => nomatch z)
theorem w3 {a b : Option D} : wordE [a, b, some (.lst [.bl false, .bl false, .bl true])] m = .ok (.str "fact") m := by
  have c : countD (.lst [.bl false, .bl false, .bl true]) [.bl true] m = .ok (.int 1) m := by rfl
  have i : indexD (.lst [.bl false, .bl false, .bl true]) [.bl true] m = .ok (.int 2) m := by rfl
  exact ev_if (p := true) (bv_test ((ev_bin (ev_mt1 rfl rfl rfl c) rfl eqD_int).trans rfl)) (fun _ => ev_bin rfl (ev_mt1 rfl rfl rfl i) (by rw [ixD_lst, atI_2])) (fun z => nomatch z)
theorem word_exc {E : Str} {b1 b2 b3 : Bool} {w : Str} (x : ExcC K (cl E)) (v : PySem.W.exmOne K (.ref (cl E)) (.ref (cl "ViewError")) = some true) (k1 : PySem.W.kitOne K (.ref (cl E)) (.ref (cl "NoPrime")) = some b1) (k2 : PySem.W.kitOne K (.ref (cl E)) (.ref (cl "NoText")) = some b2)
    (k3 : PySem.W.kitOne K (.ref (cl E)) (.ref (cl "NoFact")) = some b3) (hw : ∀ {m : List C} {a b : Option D}, wordE [a, b, some (.lst [.bl b1, .bl b2, .bl b3])] m = .ok (.str w) m) (h : th m = .exc (cl E) [] [] m1) : G_l_word K cl th m = .ok (.str w) m1 := by
  unfold G_l_word
  refine lamG_of fun L => fn_rt (sv_tryX (ρ1 := [some L, none, none]) (c := cl E) (vs := []) (m1 := m1) ?_ v fun a => ?_)
  · refine sv_retX ?_
    have e1 : eAct L th (startD 3 [L]) m = .exc (cl E) [] [] m1 := (ev_act rfl).trans h
    unfold eTup aCons aNil eC
    simp only [R.bind_ok, e1, R.bind_exc]
  · exact (congrArg (RS.unset 1) (sv_seq (sv_set (i := 2) (ev_lst (ev_cons (ev_ar2 rfl rfl (isED_ref x k1)) (ev_cons (ev_ar2 rfl rfl (isED_ref x k2)) (ev_cons (ev_ar2 rfl rfl (isED_ref x k3)) ev_nil))) (show 3 ≤ 100000 by decide))) (sv_ret (hw (a := some L) (b := some (.ref a)))))).trans rfl
/-! ### what is due -/
def DueP (K : PySem.W.Frag) (cl : Str → Addr) (th : Th) (m : List C) (due : D) : Prop := (due = .non ∧ ∃ d, th m = .ok d m) ∨ ∃ w, due = .str w ∧ PyData.strOk w = true ∧ G_l_word K cl th m = .ok (.str w) m
theorem due_ok {F Fd : ES} {ρ : DL.Env} {due : D} (h : DueP K cl (F ρ) m due) (hd : Fd ρ m = .ok due m) : eCall 2 G_l_is_due (aCons (eLam (G_l_word K cl) F) (aCons Fd aNil)) ρ m = .ok (.bl true) m := by
  rcases h with ⟨rfl, d, h⟩ | ⟨w, rfl, hw, h⟩
  · refine ev_call2 (lam_ok (word_let h)) hd (fn_ret (ev_if (p := true) (bv_test (ev_bin rfl rfl rfl)) (fun _ => ev_bin (ev_bin rfl rfl (by rw [ixD_tup, atI_0])) rfl ?_) (fun z => nomatch z)))
    rw [eqD_str (by decide +kernel) (by decide +kernel), decide_eq_true rfl]
  · refine ev_call2 (lam_ok h) hd (fn_ret (ev_if (p := false) (bv_test (ev_bin rfl rfl rfl)) (fun z => nomatch z) (fun _ => ev_bin rfl rfl ?_)))
    rw [eqD_str hw hw, decide_eq_true rfl]
variable (F : Facts K cl)
include F
theorem due_mix {p t : D} (hp : okv p = true) (ht : okv t = true) (e : th m = G_mix cl [p, t] m) : DueP K cl th m (if primeB p then (if textB t then .non else .str "text") else .str "prime") := by
  cases h1 : primeB p with
  | true =>
    obtain ⟨i, rfl, _, _⟩ := prime_of h1
    rw [if_pos rfl]
    cases h2 : textB t with
    | true =>
      obtain ⟨x, rfl⟩ := text_of h2
      exact .inl ⟨rfl, _, e.trans (mix_eq hp h1 ht h2)⟩
    | false => exact .inr ⟨_, rfl, by decide +kernel, word_exc F.xT F.vT F.kTP F.kTT F.kTF w2 (e.trans (mix_noT hp h1 ht h2))⟩
  | false => exact .inr ⟨_, rfl, by decide +kernel, word_exc F.xP F.vP F.kPP F.kPT F.kPF w1 (e.trans (mix_noP hp h1))⟩
theorem due_number {p t : D} (hp : okv p = true) (ht : okv t = true) (e : th m = G_number_of cl [p, t] m) : DueP K cl th m (if primeB p then (if factB t then .non else .str "fact") else .str "prime") := by
  cases h1 : primeB p with
  | true =>
    obtain ⟨i, rfl, _, _⟩ := prime_of h1
    rw [if_pos rfl]
    cases h2 : factB t with
    | true =>
      obtain ⟨a, l, rfl, hf⟩ := FactOk.of ht h2
      exact .inl ⟨rfl, _, e.trans (number_eq hp h1 ht h2 hf)⟩
    | false => exact .inr ⟨_, rfl, by decide +kernel, word_exc F.xF F.vF F.kFP F.kFT F.kFF w3 (e.trans (number_noF hp h1 ht h2))⟩
  | false => exact .inr ⟨_, rfl, by decide +kernel, word_exc F.xP F.vP F.kPP F.kPT F.kPF w1 (e.trans (number_noP hp h1))⟩
theorem due_fact {t : D} (ht : okv t = true) (e : th m = G_fact_text cl [t] m) : DueP K cl th m (if factB t then .non else .str "fact") := by
  cases h2 : factB t with
  | true =>
    obtain ⟨a, l, rfl, hf⟩ := FactOk.of ht h2
    exact .inl ⟨rfl, _, e.trans (fact_text_eq ht h2 hf)⟩
  | false => exact .inr ⟨_, rfl, by decide +kernel, word_exc F.xF F.vF F.kFP F.kFT F.kFF w3 (e.trans (fact_text_no ht h2))⟩
end
end K27


namespace K27
open PySem PySem.Spec L2 DL
open PyProof.Rows hiding St pairD intD cutD
section
variable {K : PySem.W.Frag} {cl : Str → Addr} {n b : Nat} {m : List C}
theorem is_int {k : Nat} {i : Int} : G_l_is (k + 1) [.int i, .int i] m = .ok (.bl true) m :=
  fn_rt (sv_seq (sv_ifF (bv_trub (ev_ar2 rfl rfl rfl)) rfl) (sv_seq (sv_ifF (bv_or (p := false) (bv_trub (ev_ar2 rfl rfl rfl)) fun _ => bv_test (ev_bin rfl rfl rfl)) rfl)
    (sv_ret (and_bl (b := true) (b2 := true) (ev_ar2 rfl rfl rfl) fun _ => and_bl (b := true) (b2 := true) (ev_bin (ev_ar2 rfl rfl rfl) (ev_ar2 rfl rfl rfl) (eqD_bl.trans rfl)) fun _ => ev_bin rfl rfl (by rw [eqD_int, decide_eq_true rfl])))))
theorem is_str {k : Nat} {x : Str} (hx : PyData.strOk x = true) : G_l_is (k + 1) [.str x, .str x] m = .ok (.bl true) m :=
  fn_rt (sv_seq (sv_ifF (bv_trub (ev_ar2 rfl rfl rfl)) rfl) (sv_seqR (sv_ifT (bv_or (p := true) (q := true) (bv_trub (ev_ar2 rfl rfl rfl)) fun z => nomatch z) (sv_ret (and_bl (b := true) (b2 := true) (ev_bin (ev_ar2 rfl rfl rfl) (ev_ar2 rfl rfl rfl) (eqD_bl.trans rfl)) fun _ => ev_bin rfl rfl (by rw [eqD_str hx hx, decide_eq_true rfl]))))))
def oddT : List D := [.str "", .str "ab", .str "a\nb", .non, .int 5, .lst [.str "a"], .tup [.str "a"]]
theorem oddT_ok {x : D} (h : x ∈ oddT) : okv x = true := by
  unfold oddT at h
  simp only [List.mem_cons, List.not_mem_nil, or_false] at h
  rcases h with rfl | rfl | rfl | rfl | rfl | rfl | rfl <;> decide +kernel
theorem call1_eq {G : FS} {Fa : ES} {ρ : DL.Env} {a : D} (ha : Fa ρ m = .ok a m) : eCall 1 G (aCons Fa aNil) ρ m = G [a] m := by
  unfold eCall aCons aNil
  simp only [ha, R.bind_ok, List.length_cons, List.length_nil, Nat.reduceAdd, if_true]
theorem call2_eq {G : FS} {Fa Fb : ES} {ρ : DL.Env} {a b : D} (ha : Fa ρ m = .ok a m) (hb : Fb ρ m = .ok b m) : eCall 2 G (aCons Fa (aCons Fb aNil)) ρ m = G [a, b] m := by
  unfold eCall aCons aNil
  simp only [ha, hb, R.bind_ok, List.length_cons, List.length_nil, Nat.reduceAdd, if_true]
theorem or_non {F : ES} {ρ : DL.Env} {i : Nat} {d : D} (h : ρ[i]? = some (some .non)) (hF : F ρ m = .ok d m) : eOr (eVar i) F ρ m = .ok d m := by
  unfold eOr
  rw [ev_var h]
  exact hF
theorem or_word {F : ES} {ρ : DL.Env} {i : Nat} {w : Str} (h : ρ[i]? = some (some (.str w))) (hw : truD m (.str w) = some true) : eOr (eVar i) F ρ m = .ok (.str w) m := by
  unfold eOr
  rw [ev_var h, R.bind_ok, hw]
theorem if_non {A : BS} {ρ : DL.Env} {p : Bool} {w : Str} (h : A ρ m = .ok p m) : eIf A (eC .non) (eC (.str w)) ρ m = .ok (if p then .non else .str w) m :=
  ev_if h (fun e => by rw [e]; rfl) (fun e => by rw [e]; rfl)
theorem refused (F : Facts K cl) (h : Hand n b m) (hb : b < 1000000 - 4000) : ∃ m', G_l_refused_right K cl [.cell n] m = .ok (.bl true) m' ∧ Hand n (b + 200) m' := by
  obtain ⟨p, m1, e1, okp, h1⟩ := odd_prime_gets h (by omega)
  obtain ⟨f, m2, e2, okf, hf, hfl, h2⟩ := fact_gets h1 (by omega)
  obtain ⟨t, m3, e3, ht, h3⟩ := some_gets somes h2 (by omega) (l := oddT) (by unfold oddT; simp) (by unfold oddT; simp)
  have okt := oddT_ok ht
  obtain ⟨j, m4, e4, j0, j1, h4⟩ := draw_gets (k := 2) draws h3 (by omega) (by omega) (by omega)
  obtain ⟨g, m5, e5, okg, h5⟩ : ∃ g m5, eIf (bTest (eBin eqD (eCall 2 G_l_draw (aCons (eVar 0) (aCons (eC (.int 2)) aNil))) (eC (.int 0)))) (eCall 2 G_l_bent_fact (aCons (eVar 0) (aCons (eVar 2) aNil))) (eVar 2) [some (.cell n), some p, some f, some t, none, none] m3 = .ok g m5 ∧ okv g = true ∧ Hand n (b + 120) m5 := by
    have ej : bTest (eBin eqD (eCall 2 G_l_draw (aCons (eVar 0) (aCons (eC (.int 2)) aNil))) (eC (.int 0))) [some (.cell n), some p, some f, some t, none, none] m3 = .ok (decide (j = 0)) m4 := bv_test (ev_bin (ev_call2 rfl rfl e4) rfl eqD_int)
    by_cases hj : j = 0
    · obtain ⟨a, l, rfl, ho⟩ := FactOk.of okf hf
      have ha := okv_tup_mem okf (show D.str a ∈ [D.str a, .tup l] by simp)
      have hl := okv_tup_mem okf (show D.tup l ∈ [D.str a, .tup l] by simp)
      have hn : nameB (.str a) = true := by
        rw [show factB (.tup [.str a, .tup l]) = (nameB (.str a) && (if isRule (.str a) then rule2B (.tup l) else rowB (.tup l))) from rfl, Bool.and_eq_true] at hf
        exact hf.1
      obtain ⟨g, m5, e5, okg, h5⟩ := bent_gets h4 (by omega) ha hn hl (hfl a l rfl) ho.n
      exact ⟨g, m5, ev_if ej (fun _ => ev_call2 rfl rfl e5) (fun z => absurd hj (of_decide_eq_false z)), okg, h5.mono (by omega)⟩
    · exact ⟨f, m4, ev_if ej (fun z => absurd (of_decide_eq_true z) hj) (fun _ => rfl), okf, h4.mono (by omega)⟩
  refine ⟨m5, fn_rt (sv_seq (ρ1 := [some (.cell n), some p, some f, none, none, none]) (sv_asg (ev_tup (ev_cons (ev_call1 rfl e1) (ev_cons (ev_call1 rfl e2) rfl)) (show 2 ≤ 100000 by decide)) rfl) (sv_seq (sv_set (ev_call2 (b := .lst oddT) rfl rfl e3)) (sv_seq (sv_set e5) (sv_seq (sv_set (if_non (bv_trub (ev_call1 rfl (l_is_prime_eq okp)))) ) ?_)))), h5.mono (by omega)⟩
  have hd : ∀ {w : Str} {A : BS} {q : Bool} {o : Option D}, A [some (.cell n), some p, some g, some t, some (if primeB p then .non else .str "prime"), o] m5 = .ok q m5 → eOr (eVar 4) (eIf A (eC .non) (eC (.str w))) [some (.cell n), some p, some g, some t, some (if primeB p then .non else .str "prime"), o] m5 = .ok (if primeB p then (if q then .non else .str w) else .str "prime") m5 := fun hA => by
    cases hp : primeB p with
    | true =>
      rw [hp] at hA
      exact or_non rfl (if_non hA)
    | false => exact or_word rfl rfl
  have hd2 : ∀ {e : D}, (e = .non ∨ e = .str "fact") → eOr (eVar 4) (eVar 5) [some (.cell n), some p, some g, some t, some (if primeB p then .non else .str "prime"), some e] m5 = .ok (if primeB p then e else .str "prime") m5 := fun he => by
    cases hp : primeB p with
    | true => exact or_non rfl rfl
    | false => exact or_word rfl rfl
  refine sv_seq (sv_ifF (bv_not (p := true) (bv_trub (due_ok (due_mix F okp okt (call2_eq rfl rfl)) (hd (bv_trub (ev_call1 rfl (l_is_text_eq okt))))))) rfl) ?_
  refine sv_seq (sv_set (if_non (bv_trub (ev_call1 rfl (l_is_fact_eq okg))))) ?_
  refine sv_seq (sv_ifF (bv_not (p := true) (bv_trub (due_ok (due_number F okp okg (call2_eq rfl rfl)) (hd2 (by cases factB g <;> simp))))) rfl) ?_
  exact sv_ret (due_ok (due_fact F okg (call1_eq rfl)) rfl)
theorem turn_ok (F : Facts K cl) (h : Hand n b m) (hb : b < 1000000 - 10000) {e0 e2 e3 e4 e5 : Option D} : ∃ ρ' m', (sSeq (sPar3 3 4 5 (aCons (eCall 1 G_l_prime (aCons (eVar 1) aNil)) (aCons (eCall 1 G_l_text (aCons (eVar 1) aNil)) (aCons (eCall 1 G_l_fact (aCons (eVar 1) aNil)) aNil))))
    (sSeq (sIf (bOr (bNot (bTru (eCall 2 (G_l_is 4) (aCons (eCall 2 (G_mix cl) (aCons (eVar 3) (aCons (eVar 4) aNil))) (aCons (eCall 2 G_l_mix (aCons (eVar 3) (aCons (eVar 4) aNil))) aNil))))) (bNot (bTru (eCall 2 (G_l_is 4) (aCons (eCall 1 (G_fact_text cl) (aCons (eVar 5) aNil)) (aCons (eCall 1 G_l_fact_text (aCons (eVar 5) aNil)) aNil)))))) (sRet (eC (.bl false))) sSkip)
    (sIf (bOr (bNot (bTru (eCall 2 (G_l_is 4) (aCons (eCall 2 (G_number_of cl) (aCons (eVar 3) (aCons (eVar 5) aNil))) (aCons (eCall 2 G_l_number (aCons (eVar 3) (aCons (eVar 5) aNil))) aNil))))) (bNot (bTru (eCall 1 (G_l_refused_right K cl) (aCons (eVar 1) aNil))))) (sRet (eC (.bl false))) sSkip))) [e0, some (.cell n), e2, e3, e4, e5] m = .nx ρ' m' ∧ (∃ e3 e4 e5, ρ' = [e0, some (.cell n), e2, e3, e4, e5]) ∧ Hand n (b + 3000) m' := by
  obtain ⟨p, m1, e1, okp, hp, h1⟩ := prime_gets h (by omega)
  obtain ⟨x, m2, e2, okx, hx, h2⟩ := text_gets h1 (by omega)
  obtain ⟨f, m3, e3, okf, hf, hfl, h3⟩ := fact_gets h2 (by omega)
  obtain ⟨m4, e4, h4⟩ := refused F h3 (by omega)
  obtain ⟨a, l, rfl, ho⟩ := FactOk.of okf hf
  obtain ⟨_, ep, hp1, hp2⟩ := prime_of hp
  cases ep
  refine ⟨_, m4, sv_seq (sv_par3 (ev_cons (ev_call1 rfl e1) (ev_cons (ev_call1 rfl e2) (ev_cons (ev_call1 rfl e3) rfl)))) (sv_seq (sv_ifF (bv_or (p := false) (bv_not (p := true) (bv_trub (ev_call2 (ev_call2 rfl rfl (mix_eq okp hp okx hx)) (ev_call2 rfl rfl (l_mix_eq (by omega) (by omega) (okv_str okx).1)) is_int))) fun _ =>
    bv_not (p := true) (bv_trub (ev_call2 (ev_call1 rfl (fact_text_eq okf hf ho)) (ev_call1 rfl (l_fact_text_eq ho)) (is_str ho.strOk)))) rfl) (sv_ifF ?_ rfl)), ⟨_, _, _, rfl⟩, h4.mono (by omega)⟩
  unfold bOr
  rw [bv_not (p := true) (bv_trub (ev_call2 (ev_call2 rfl rfl (number_eq okp hp okf hf ho)) (ev_call2 rfl rfl (l_number_eq (by omega) (by omega) ho)) is_int))]
  exact bv_not (p := true) (bv_trub (ev_call1 rfl e4))
theorem law_ok (F : Facts K cl) {d : D} {ns : List Int} (hd : slD m d none (some 63) = .ok (.lst (DL.cutD (ns.map D.int) none (some 63))) m) : wR (G_law K cl [d] m) fun x m' => x = .bl true := by
  obtain ⟨x, m1, e1, rfl, h1⟩ := wR_ex (hand_ok (u := 97) (v := 5) (ns := ns) (Q := fun x m' => x = .cell m.length ∧ Hand m.length 0 m') (by decide) (by decide) (by decide) (by decide) hd fun c0 hc0 => ⟨rfl, c0, by simp, hc0⟩)
  generalize m.length = n at e1 h1
  obtain ⟨ρ', m', el, j, hj, hh, e2, e3, e4, e5, rfl⟩ := loop_inv (g := gN 2) (fun ds ρ m => ∃ j, j + ds.length = 6 ∧ Hand n (3000 * j) m ∧ ∃ e2 e3 e4 e5, ρ = [some d, some (.cell n), e2, e3, e4, e5]) (fun x ds ρ m ⟨j, hj, hh, e2, e3, e4, e5, e⟩ => by
    subst e
    rw [List.length_cons] at hj
    obtain ⟨ρ', m', er, ⟨e3, e4, e5, e⟩, h2⟩ := turn_ok F hh (by omega) (e0 := some d) (e2 := some x) (e3 := e3) (e4 := e4) (e5 := e5)
    exact ⟨_, ρ', m', rfl, er, j + 1, by omega, h2.mono (by omega), _, _, _, _, e⟩) (l := rangeD 0 (6 : Int).toNat) (ρ := [some d, some (.cell n), none, none, none, none]) (m := m1) ⟨0, by rw [len_range]; rfl, h1, _, _, _, _, rfl⟩
  have e : G_law K cl [d] m = .ok (.bl true) m' := fn_rt (sv_seq (sv_set (ev_call1 rfl e1)) (sv_seq (sv_for (ev_range1 rfl (by omega) (by omega)) el) (sv_ret rfl)))
  rw [e]
  rfl
end
end K27


namespace K27
open PySem PySem.Spec L2 DL
open PyProof.Rows hiding St pairD intD cutD
set_option maxHeartbeats 4000000 in
theorem all_mk {l : PySem.W.OpenLaw} {w : World} {K : PySem.W.Frag} {h : Heap} {mg : Str → Option Value} {fa cc0 P0 : Addr} (X : K.In h) (G : h.Ns mainGlobals mg) (hfa : mg "law" = some (.ref fa)) (hP0 : h.get? P0 = some { cls := .none, data := .fields #[] })
    {f0 f1 f2 f3 f4 f5 f6 f7 f8 f9 f10 f11 f12 f13 f14 f15 f16 f17 f18 f19 f20 f21 f22 f23 f24 f25 f26 f27 f28 f29 f30 f31 f32 f33 f34 f35 f36 f37 f38 f39 f40 f41 f42 : Addr} {C_NoFact C_NoPrime C_NoText C_ViewError : Addr}
    {od0 an0 od1 an1 od2 an2 od3 an3 od4 an4 od5 an5 od6 an6 od7 an7 od8 an8 od9 an9 od10 an10 od11 an11 od12 an12 od13 an13 od14 an14 od15 an15 od16 an16 od17 an17 od18 an18 od19 an19 od20 an20 od21 an21 od22 an22 od23 an23 od24 an24 od25 an25 od26 an26 od27 an27 od28 an28 od29 an29 od30 an30 od31 an31 od32 an32 od33 an33 od34 an34 od35 an35 od36 an36 od37 an37 od38 an38 od39 an39 od40 an40 od41 an41 od42 an42 : Option Addr} {sl0 sl1 sl2 sl3 sl4 sl5 sl6 sl7 sl8 sl9 sl10 sl11 sl12 sl13 sl14 sl15 sl16 sl17 sl18 sl19 sl20 sl21 sl22 sl23 sl24 sl25 sl26 sl27 sl28 sl29 sl30 sl31 sl32 sl33 sl34 sl35 sl36 sl37 sl38 sl39 sl40 sl41 sl42 : Array (Option Value)} {oc0 kV0 dc0 pm0 cd0 ct0 oc1 kV1 dc1 pm1 cd1 ct1 oc2 kV2 dc2 pm2 cd2 ct2 oc3 kV3 dc3 pm3 cd3 ct3 oc4 kV4 dc4 pm4 cd4 ct4 oc5 kV5 dc5 pm5 cd5 ct5 oc6 kV6 dc6 pm6 cd6 ct6 oc7 kV7 dc7 pm7 cd7 ct7 oc8 kV8 dc8 pm8 cd8 ct8 oc9 kV9 dc9 pm9 cd9 ct9 oc10 kV10 dc10 pm10 cd10 ct10 oc11 kV11 dc11 pm11 cd11 ct11 oc12 kV12 dc12 pm12 cd12 ct12 oc13 kV13 dc13 pm13 cd13 ct13 oc14 kV14 dc14 pm14 cd14 ct14 oc15 kV15 dc15 pm15 cd15 ct15 oc16 kV16 dc16 pm16 cd16 ct16 oc17 kV17 dc17 pm17 cd17 ct17 oc18 kV18 dc18 pm18 cd18 ct18 oc19 kV19 dc19 pm19 cd19 ct19 oc20 kV20 dc20 pm20 cd20 ct20 oc21 kV21 dc21 pm21 cd21 ct21 oc22 kV22 dc22 pm22 cd22 ct22 oc23 kV23 dc23 pm23 cd23 ct23 oc24 kV24 dc24 pm24 cd24 ct24 oc25 kV25 dc25 pm25 cd25 ct25 oc26 kV26 dc26 pm26 cd26 ct26 oc27 kV27 dc27 pm27 cd27 ct27 oc28 kV28 dc28 pm28 cd28 ct28 oc29 kV29 dc29 pm29 cd29 ct29 oc30 kV30 dc30 pm30 cd30 ct30 oc31 kV31 dc31 pm31 cd31 ct31 oc32 kV32 dc32 pm32 cd32 ct32 oc33 kV33 dc33 pm33 cd33 ct33 oc34 kV34 dc34 pm34 cd34 ct34 oc35 kV35 dc35 pm35 cd35 ct35 oc36 kV36 dc36 pm36 cd36 ct36 oc37 kV37 dc37 pm37 cd37 ct37 oc38 kV38 dc38 pm38 cd38 ct38 oc39 kV39 dc39 pm39 cd39 ct39 oc40 kV40 dc40 pm40 cd40 ct40 oc41 kV41 dc41 pm41  ct41 oc42 kV42 dc42 pm42 cd42 ct42 : Value}
    {t_LEAST_PRIME t_MOST_LETTERS t_MOST_PLACES t_MOST_PRIME t_MOST_SIGNS t_RULE : Tok}
    (a0 : PySem.W.nsIn K mainGlobals "is_integer" = some (some (.ref f0)))
    (l0 : K.lookup f0 = some ⟨oc0, od0, .func (PySem.W.fnOf "is_integer" "is_integer" (defArgs st_is_integer) (defBody st_is_integer) (defScope st_is_integer) .none kV0 dc0 pm0 an0 cd0 ct0), sl0⟩)
    (c0 : PySem.W.codeIn K cd0 "is_integer" = true)
    (k0 : PySem.W.keepIn K (.ref f0) = true)
    (a1 : PySem.W.nsIn K mainGlobals "is_within" = some (some (.ref f1)))
    (l1 : K.lookup f1 = some ⟨oc1, od1, .func (PySem.W.fnOf "is_within" "is_within" (defArgs st_is_within) (defBody st_is_within) (defScope st_is_within) .none kV1 dc1 pm1 an1 cd1 ct1), sl1⟩)
    (c1 : PySem.W.codeIn K cd1 "is_within" = true)
    (k1 : PySem.W.keepIn K (.ref f1) = true)
    (a2 : PySem.W.nsIn K mainGlobals "is_sized" = some (some (.ref f2)))
    (l2 : K.lookup f2 = some ⟨oc2, od2, .func (PySem.W.fnOf "is_sized" "is_sized" (defArgs st_is_sized) (defBody st_is_sized) (defScope st_is_sized) .none kV2 dc2 pm2 an2 cd2 ct2), sl2⟩)
    (c2 : PySem.W.codeIn K cd2 "is_sized" = true)
    (k2 : PySem.W.keepIn K (.ref f2) = true)
    (a3 : PySem.W.nsIn K mainGlobals "is_word" = some (some (.ref f3)))
    (l3 : K.lookup f3 = some ⟨oc3, od3, .func (PySem.W.fnOf "is_word" "is_word" (defArgs st_is_word) (defBody st_is_word) (defScope st_is_word) .none kV3 dc3 pm3 an3 cd3 ct3), sl3⟩)
    (c3 : PySem.W.codeIn K cd3 "is_word" = true)
    (k3 : PySem.W.keepIn K (.ref f3) = true)
    (a4 : PySem.W.nsIn K mainGlobals "is_cell" = some (some (.ref f4)))
    (l4 : K.lookup f4 = some ⟨oc4, od4, .func (PySem.W.fnOf "is_cell" "is_cell" (defArgs st_is_cell) (defBody st_is_cell) (defScope st_is_cell) .none kV4 dc4 pm4 an4 cd4 ct4), sl4⟩)
    (c4 : PySem.W.codeIn K cd4 "is_cell" = true)
    (k4 : PySem.W.keepIn K (.ref f4) = true)
    (a5 : PySem.W.nsIn K mainGlobals "is_row_of_cells" = some (some (.ref f5)))
    (l5 : K.lookup f5 = some ⟨oc5, od5, .func (PySem.W.fnOf "is_row_of_cells" "is_row_of_cells" (defArgs st_is_row_of_cells) (defBody st_is_row_of_cells) (defScope st_is_row_of_cells) .none kV5 dc5 pm5 an5 cd5 ct5), sl5⟩)
    (c5 : PySem.W.codeIn K cd5 "is_row_of_cells" = true)
    (k5 : PySem.W.keepIn K (.ref f5) = true)
    (a6 : PySem.W.nsIn K mainGlobals "is_name" = some (some (.ref f6)))
    (l6 : K.lookup f6 = some ⟨oc6, od6, .func (PySem.W.fnOf "is_name" "is_name" (defArgs st_is_name) (defBody st_is_name) (defScope st_is_name) .none kV6 dc6 pm6 an6 cd6 ct6), sl6⟩)
    (c6 : PySem.W.codeIn K cd6 "is_name" = true)
    (k6 : PySem.W.keepIn K (.ref f6) = true)
    (a7 : PySem.W.nsIn K mainGlobals "check_prime" = some (some (.ref f7)))
    (l7 : K.lookup f7 = some ⟨oc7, od7, .func (PySem.W.fnOf "check_prime" "check_prime" (defArgs st_check_prime) (defBody st_check_prime) (defScope st_check_prime) .none kV7 dc7 pm7 an7 cd7 ct7), sl7⟩)
    (c7 : PySem.W.codeIn K cd7 "check_prime" = true)
    (k7 : PySem.W.keepIn K (.ref f7) = true)
    (a8 : PySem.W.nsIn K mainGlobals "raw_mix" = some (some (.ref f8)))
    (l8 : K.lookup f8 = some ⟨oc8, od8, .func (PySem.W.fnOf "raw_mix" "raw_mix" (defArgs st_raw_mix) (defBody st_raw_mix) (defScope st_raw_mix) .none kV8 dc8 pm8 an8 cd8 ct8), sl8⟩)
    (c8 : PySem.W.codeIn K cd8 "raw_mix" = true)
    (k8 : PySem.W.keepIn K (.ref f8) = true)
    (a9 : PySem.W.nsIn K mainGlobals "mix" = some (some (.ref f9)))
    (l9 : K.lookup f9 = some ⟨oc9, od9, .func (PySem.W.fnOf "mix" "mix" (defArgs st_mix) (defBody st_mix) (defScope st_mix) .none kV9 dc9 pm9 an9 cd9 ct9), sl9⟩)
    (c9 : PySem.W.codeIn K cd9 "mix" = true)
    (k9 : PySem.W.keepIn K (.ref f9) = true)
    (a10 : PySem.W.nsIn K mainGlobals "is_text" = some (some (.ref f10)))
    (l10 : K.lookup f10 = some ⟨oc10, od10, .func (PySem.W.fnOf "is_text" "is_text" (defArgs st_is_text) (defBody st_is_text) (defScope st_is_text) .none kV10 dc10 pm10 an10 cd10 ct10), sl10⟩)
    (c10 : PySem.W.codeIn K cd10 "is_text" = true)
    (k10 : PySem.W.keepIn K (.ref f10) = true)
    (a11 : PySem.W.nsIn K mainGlobals "is_fact" = some (some (.ref f11)))
    (l11 : K.lookup f11 = some ⟨oc11, od11, .func (PySem.W.fnOf "is_fact" "is_fact" (defArgs st_is_fact) (defBody st_is_fact) (defScope st_is_fact) .none kV11 dc11 pm11 an11 cd11 ct11), sl11⟩)
    (c11 : PySem.W.codeIn K cd11 "is_fact" = true)
    (k11 : PySem.W.keepIn K (.ref f11) = true)
    (a12 : PySem.W.nsIn K mainGlobals "worth_text" = some (some (.ref f12)))
    (l12 : K.lookup f12 = some ⟨oc12, od12, .func (PySem.W.fnOf "worth_text" "worth_text" (defArgs st_worth_text) (defBody st_worth_text) (defScope st_worth_text) .none kV12 dc12 pm12 an12 cd12 ct12), sl12⟩)
    (c12 : PySem.W.codeIn K cd12 "worth_text" = true)
    (k12 : PySem.W.keepIn K (.ref f12) = true)
    (a13 : PySem.W.nsIn K mainGlobals "raw_fact_text" = some (some (.ref f13)))
    (l13 : K.lookup f13 = some ⟨oc13, od13, .func (PySem.W.fnOf "raw_fact_text" "raw_fact_text" (defArgs st_raw_fact_text) (defBody st_raw_fact_text) (defScope st_raw_fact_text) .none kV13 dc13 pm13 an13 cd13 ct13), sl13⟩)
    (c13 : PySem.W.codeIn K cd13 "raw_fact_text" = true)
    (k13 : PySem.W.keepIn K (.ref f13) = true)
    (a14 : PySem.W.nsIn K mainGlobals "check_fact" = some (some (.ref f14)))
    (l14 : K.lookup f14 = some ⟨oc14, od14, .func (PySem.W.fnOf "check_fact" "check_fact" (defArgs st_check_fact) (defBody st_check_fact) (defScope st_check_fact) .none kV14 dc14 pm14 an14 cd14 ct14), sl14⟩)
    (c14 : PySem.W.codeIn K cd14 "check_fact" = true)
    (k14 : PySem.W.keepIn K (.ref f14) = true)
    (a15 : PySem.W.nsIn K mainGlobals "fact_text" = some (some (.ref f15)))
    (l15 : K.lookup f15 = some ⟨oc15, od15, .func (PySem.W.fnOf "fact_text" "fact_text" (defArgs st_fact_text) (defBody st_fact_text) (defScope st_fact_text) .none kV15 dc15 pm15 an15 cd15 ct15), sl15⟩)
    (c15 : PySem.W.codeIn K cd15 "fact_text" = true)
    (k15 : PySem.W.keepIn K (.ref f15) = true)
    (a16 : PySem.W.nsIn K mainGlobals "raw_number_of" = some (some (.ref f16)))
    (l16 : K.lookup f16 = some ⟨oc16, od16, .func (PySem.W.fnOf "raw_number_of" "raw_number_of" (defArgs st_raw_number_of) (defBody st_raw_number_of) (defScope st_raw_number_of) .none kV16 dc16 pm16 an16 cd16 ct16), sl16⟩)
    (c16 : PySem.W.codeIn K cd16 "raw_number_of" = true)
    (k16 : PySem.W.keepIn K (.ref f16) = true)
    (a17 : PySem.W.nsIn K mainGlobals "number_of" = some (some (.ref f17)))
    (l17 : K.lookup f17 = some ⟨oc17, od17, .func (PySem.W.fnOf "number_of" "number_of" (defArgs st_number_of) (defBody st_number_of) (defScope st_number_of) .none kV17 dc17 pm17 an17 cd17 ct17), sl17⟩)
    (c17 : PySem.W.codeIn K cd17 "number_of" = true)
    (k17 : PySem.W.keepIn K (.ref f17) = true)
    (a18 : PySem.W.nsIn K mainGlobals "_law_hand" = some (some (.ref f18)))
    (l18 : K.lookup f18 = some ⟨oc18, od18, .func (PySem.W.fnOf "_law_hand" "_law_hand" (defArgs st_l_hand) (defBody st_l_hand) (defScope st_l_hand) .none kV18 dc18 pm18 an18 cd18 ct18), sl18⟩)
    (c18 : PySem.W.codeIn K cd18 "_law_hand" = true)
    (k18 : PySem.W.keepIn K (.ref f18) = true)
    (a19 : PySem.W.nsIn K mainGlobals "_law_draw" = some (some (.ref f19)))
    (l19 : K.lookup f19 = some ⟨oc19, od19, .func (PySem.W.fnOf "_law_draw" "_law_draw" (defArgs st_l_draw) (defBody st_l_draw) (defScope st_l_draw) .none kV19 dc19 pm19 an19 cd19 ct19), sl19⟩)
    (c19 : PySem.W.codeIn K cd19 "_law_draw" = true)
    (k19 : PySem.W.keepIn K (.ref f19) = true)
    (a20 : PySem.W.nsIn K mainGlobals "_law_some" = some (some (.ref f20)))
    (l20 : K.lookup f20 = some ⟨oc20, od20, .func (PySem.W.fnOf "_law_some" "_law_some" (defArgs st_l_some) (defBody st_l_some) (defScope st_l_some) .none kV20 dc20 pm20 an20 cd20 ct20), sl20⟩)
    (c20 : PySem.W.codeIn K cd20 "_law_some" = true)
    (k20 : PySem.W.keepIn K (.ref f20) = true)
    (a21 : PySem.W.nsIn K mainGlobals "_law_mix" = some (some (.ref f21)))
    (l21 : K.lookup f21 = some ⟨oc21, od21, .func (PySem.W.fnOf "_law_mix" "_law_mix" (defArgs st_l_mix) (defBody st_l_mix) (defScope st_l_mix) .none kV21 dc21 pm21 an21 cd21 ct21), sl21⟩)
    (c21 : PySem.W.codeIn K cd21 "_law_mix" = true)
    (k21 : PySem.W.keepIn K (.ref f21) = true)
    (a22 : PySem.W.nsIn K mainGlobals "_law_worth_text" = some (some (.ref f22)))
    (l22 : K.lookup f22 = some ⟨oc22, od22, .func (PySem.W.fnOf "_law_worth_text" "_law_worth_text" (defArgs st_l_worth_text) (defBody st_l_worth_text) (defScope st_l_worth_text) .none kV22 dc22 pm22 an22 cd22 ct22), sl22⟩)
    (c22 : PySem.W.codeIn K cd22 "_law_worth_text" = true)
    (k22 : PySem.W.keepIn K (.ref f22) = true)
    (a23 : PySem.W.nsIn K mainGlobals "_law_fact_text" = some (some (.ref f23)))
    (l23 : K.lookup f23 = some ⟨oc23, od23, .func (PySem.W.fnOf "_law_fact_text" "_law_fact_text" (defArgs st_l_fact_text) (defBody st_l_fact_text) (defScope st_l_fact_text) .none kV23 dc23 pm23 an23 cd23 ct23), sl23⟩)
    (c23 : PySem.W.codeIn K cd23 "_law_fact_text" = true)
    (k23 : PySem.W.keepIn K (.ref f23) = true)
    (a24 : PySem.W.nsIn K mainGlobals "_law_number" = some (some (.ref f24)))
    (l24 : K.lookup f24 = some ⟨oc24, od24, .func (PySem.W.fnOf "_law_number" "_law_number" (defArgs st_l_number) (defBody st_l_number) (defScope st_l_number) .none kV24 dc24 pm24 an24 cd24 ct24), sl24⟩)
    (c24 : PySem.W.codeIn K cd24 "_law_number" = true)
    (k24 : PySem.W.keepIn K (.ref f24) = true)
    (a25 : PySem.W.nsIn K mainGlobals "_law_deep" = some (some (.ref f25)))
    (l25 : K.lookup f25 = some ⟨oc25, od25, .func (PySem.W.fnOf "_law_deep" "_law_deep" (defArgs st_l_deep) (defBody st_l_deep) (defScope st_l_deep) .none kV25 dc25 pm25 an25 cd25 ct25), sl25⟩)
    (c25 : PySem.W.codeIn K cd25 "_law_deep" = true)
    (k25 : PySem.W.keepIn K (.ref f25) = true)
    (a26 : PySem.W.nsIn K mainGlobals "_law_odd" = some (some (.ref f26)))
    (l26 : K.lookup f26 = some ⟨oc26, od26, .func (PySem.W.fnOf "_law_odd" "_law_odd" (defArgs st_l_odd) (defBody st_l_odd) (defScope st_l_odd) .none kV26 dc26 pm26 an26 cd26 ct26), sl26⟩)
    (c26 : PySem.W.codeIn K cd26 "_law_odd" = true)
    (k26 : PySem.W.keepIn K (.ref f26) = true)
    (a27 : PySem.W.nsIn K mainGlobals "_law_odd_prime" = some (some (.ref f27)))
    (l27 : K.lookup f27 = some ⟨oc27, od27, .func (PySem.W.fnOf "_law_odd_prime" "_law_odd_prime" (defArgs st_l_odd_prime) (defBody st_l_odd_prime) (defScope st_l_odd_prime) .none kV27 dc27 pm27 an27 cd27 ct27), sl27⟩)
    (c27 : PySem.W.codeIn K cd27 "_law_odd_prime" = true)
    (k27 : PySem.W.keepIn K (.ref f27) = true)
    (a28 : PySem.W.nsIn K mainGlobals "_law_is_prime" = some (some (.ref f28)))
    (l28 : K.lookup f28 = some ⟨oc28, od28, .func (PySem.W.fnOf "_law_is_prime" "_law_is_prime" (defArgs st_l_is_prime) (defBody st_l_is_prime) (defScope st_l_is_prime) .none kV28 dc28 pm28 an28 cd28 ct28), sl28⟩)
    (c28 : PySem.W.codeIn K cd28 "_law_is_prime" = true)
    (k28 : PySem.W.keepIn K (.ref f28) = true)
    (a29 : PySem.W.nsIn K mainGlobals "_law_is_text" = some (some (.ref f29)))
    (l29 : K.lookup f29 = some ⟨oc29, od29, .func (PySem.W.fnOf "_law_is_text" "_law_is_text" (defArgs st_l_is_text) (defBody st_l_is_text) (defScope st_l_is_text) .none kV29 dc29 pm29 an29 cd29 ct29), sl29⟩)
    (c29 : PySem.W.codeIn K cd29 "_law_is_text" = true)
    (k29 : PySem.W.keepIn K (.ref f29) = true)
    (a30 : PySem.W.nsIn K mainGlobals "_law_is_worth" = some (some (.ref f30)))
    (l30 : K.lookup f30 = some ⟨oc30, od30, .func (PySem.W.fnOf "_law_is_worth" "_law_is_worth" (defArgs st_l_is_worth) (defBody st_l_is_worth) (defScope st_l_is_worth) .none kV30 dc30 pm30 an30 cd30 ct30), sl30⟩)
    (c30 : PySem.W.codeIn K cd30 "_law_is_worth" = true)
    (k30 : PySem.W.keepIn K (.ref f30) = true)
    (a31 : PySem.W.nsIn K mainGlobals "_law_is_name" = some (some (.ref f31)))
    (l31 : K.lookup f31 = some ⟨oc31, od31, .func (PySem.W.fnOf "_law_is_name" "_law_is_name" (defArgs st_l_is_name) (defBody st_l_is_name) (defScope st_l_is_name) .none kV31 dc31 pm31 an31 cd31 ct31), sl31⟩)
    (c31 : PySem.W.codeIn K cd31 "_law_is_name" = true)
    (k31 : PySem.W.keepIn K (.ref f31) = true)
    (a32 : PySem.W.nsIn K mainGlobals "_law_is_fact" = some (some (.ref f32)))
    (l32 : K.lookup f32 = some ⟨oc32, od32, .func (PySem.W.fnOf "_law_is_fact" "_law_is_fact" (defArgs st_l_is_fact) (defBody st_l_is_fact) (defScope st_l_is_fact) .none kV32 dc32 pm32 an32 cd32 ct32), sl32⟩)
    (c32 : PySem.W.codeIn K cd32 "_law_is_fact" = true)
    (k32 : PySem.W.keepIn K (.ref f32) = true)
    (a33 : PySem.W.nsIn K mainGlobals "_law_bent_fact" = some (some (.ref f33)))
    (l33 : K.lookup f33 = some ⟨oc33, od33, .func (PySem.W.fnOf "_law_bent_fact" "_law_bent_fact" (defArgs st_l_bent_fact) (defBody st_l_bent_fact) (defScope st_l_bent_fact) .none kV33 dc33 pm33 an33 cd33 ct33), sl33⟩)
    (c33 : PySem.W.codeIn K cd33 "_law_bent_fact" = true)
    (k33 : PySem.W.keepIn K (.ref f33) = true)
    (a34 : PySem.W.nsIn K mainGlobals "_law_prime" = some (some (.ref f34)))
    (l34 : K.lookup f34 = some ⟨oc34, od34, .func (PySem.W.fnOf "_law_prime" "_law_prime" (defArgs st_l_prime) (defBody st_l_prime) (defScope st_l_prime) .none kV34 dc34 pm34 an34 cd34 ct34), sl34⟩)
    (c34 : PySem.W.codeIn K cd34 "_law_prime" = true)
    (k34 : PySem.W.keepIn K (.ref f34) = true)
    (a35 : PySem.W.nsIn K mainGlobals "_law_worth" = some (some (.ref f35)))
    (l35 : K.lookup f35 = some ⟨oc35, od35, .func (PySem.W.fnOf "_law_worth" "_law_worth" (defArgs st_l_worth) (defBody st_l_worth) (defScope st_l_worth) .none kV35 dc35 pm35 an35 cd35 ct35), sl35⟩)
    (c35 : PySem.W.codeIn K cd35 "_law_worth" = true)
    (k35 : PySem.W.keepIn K (.ref f35) = true)
    (a36 : PySem.W.nsIn K mainGlobals "_law_fact" = some (some (.ref f36)))
    (l36 : K.lookup f36 = some ⟨oc36, od36, .func (PySem.W.fnOf "_law_fact" "_law_fact" (defArgs st_l_fact) (defBody st_l_fact) (defScope st_l_fact) .none kV36 dc36 pm36 an36 cd36 ct36), sl36⟩)
    (c36 : PySem.W.codeIn K cd36 "_law_fact" = true)
    (k36 : PySem.W.keepIn K (.ref f36) = true)
    (a37 : PySem.W.nsIn K mainGlobals "_law_is" = some (some (.ref f37)))
    (l37 : K.lookup f37 = some ⟨oc37, od37, .func (PySem.W.fnOf "_law_is" "_law_is" (defArgs st_l_is) (defBody st_l_is) (defScope st_l_is) .none kV37 dc37 pm37 an37 cd37 ct37), sl37⟩)
    (c37 : PySem.W.codeIn K cd37 "_law_is" = true)
    (k37 : PySem.W.keepIn K (.ref f37) = true)
    (a38 : PySem.W.nsIn K mainGlobals "_law_text" = some (some (.ref f38)))
    (l38 : K.lookup f38 = some ⟨oc38, od38, .func (PySem.W.fnOf "_law_text" "_law_text" (defArgs st_l_text) (defBody st_l_text) (defScope st_l_text) .none kV38 dc38 pm38 an38 cd38 ct38), sl38⟩)
    (c38 : PySem.W.codeIn K cd38 "_law_text" = true)
    (k38 : PySem.W.keepIn K (.ref f38) = true)
    (a39 : PySem.W.nsIn K mainGlobals "_law_word" = some (some (.ref f39)))
    (l39 : K.lookup f39 = some ⟨oc39, od39, .func (PySem.W.fnOf "_law_word" "_law_word" (defArgs st_l_word) (defBody st_l_word) (defScope st_l_word) .none kV39 dc39 pm39 an39 cd39 ct39), sl39⟩)
    (c39 : PySem.W.codeIn K cd39 "_law_word" = true)
    (k39 : PySem.W.keepIn K (.ref f39) = true)
    (a40 : PySem.W.nsIn K mainGlobals "_law_is_due" = some (some (.ref f40)))
    (l40 : K.lookup f40 = some ⟨oc40, od40, .func (PySem.W.fnOf "_law_is_due" "_law_is_due" (defArgs st_l_is_due) (defBody st_l_is_due) (defScope st_l_is_due) .none kV40 dc40 pm40 an40 cd40 ct40), sl40⟩)
    (c40 : PySem.W.codeIn K cd40 "_law_is_due" = true)
    (k40 : PySem.W.keepIn K (.ref f40) = true)
    (a41 : PySem.W.nsIn K mainGlobals "_law_refused_right" = some (some (.ref f41)))
    (l41 : K.lookup f41 = some ⟨oc41, od41, .func (PySem.W.fnOf "_law_refused_right" "_law_refused_right" (defArgs st_l_refused_right) (defBody st_l_refused_right) (defScope st_l_refused_right) .none kV41 dc41 pm41 an41 (.ref cc0) ct41), sl41⟩)
    (c41 : PySem.W.codeIn K (.ref cc0) "_law_refused_right" = true)
    (k41 : PySem.W.keepIn K (.ref f41) = true)
    (a42 : PySem.W.nsIn K mainGlobals "law" = some (some (.ref f42)))
    (l42 : K.lookup f42 = some ⟨oc42, od42, .func (PySem.W.fnOf "law" "law" (defArgs st_law) (defBody st_law) (defScope st_law) .none kV42 dc42 pm42 an42 cd42 ct42), sl42⟩)
    (c42 : PySem.W.codeIn K cd42 "law" = true)
    (k42 : PySem.W.keepIn K (.ref f42) = true)
    (n_LEAST_PRIME : PySem.W.nsIn K mainGlobals "LEAST_PRIME" = some (some (.int 1000 t_LEAST_PRIME)))
    (n_MOST_LETTERS : PySem.W.nsIn K mainGlobals "MOST_LETTERS" = some (some (.int 8 t_MOST_LETTERS)))
    (n_MOST_PLACES : PySem.W.nsIn K mainGlobals "MOST_PLACES" = some (some (.int 5 t_MOST_PLACES)))
    (n_MOST_PRIME : PySem.W.nsIn K mainGlobals "MOST_PRIME" = some (some (.int 170141183460469231731687303715884105728 t_MOST_PRIME)))
    (n_MOST_SIGNS : PySem.W.nsIn K mainGlobals "MOST_SIGNS" = some (some (.int 20 t_MOST_SIGNS)))
    (n_RULE : PySem.W.nsIn K mainGlobals "RULE" = some (some (.str "rule" t_RULE)))
    (g_NoFact : PySem.W.nsIn K mainGlobals "NoFact" = some (some (.ref C_NoFact)))
    (g_NoPrime : PySem.W.nsIn K mainGlobals "NoPrime" = some (some (.ref C_NoPrime)))
    (g_NoText : PySem.W.nsIn K mainGlobals "NoText" = some (some (.ref C_NoText)))
    (g_ViewError : PySem.W.nsIn K mainGlobals "ViewError" = some (some (.ref C_ViewError)))
    (e1_NoFact : PySem.W.excIn K C_NoFact [.type "ValueError", .type "Exception", .type "BaseException", .type "object"] "ValueError.__new__" = true)
    (e2_NoFact : PySem.W.keepIn K (.ref C_NoFact) = true)
    (e3_NoFact : PySem.W.subIn K (.ref C_NoFact) (.type "BaseException") = some true)
    (e4_NoFact : PySem.W.typeIn K (.ref C_NoFact) = some (.type "type"))
    (x1_NoFact : PySem.W.findIn K (.ref C_NoFact) "__getattribute__" = some (some (.builtin "BaseException.__getattribute__")))
    (x2_NoFact : PySem.W.findIn K (.ref C_NoFact) "__getattr__" = some none)
    (x3_NoFact : PySem.W.hasDictIn K C_NoFact = true)
    (x4_NoFact : PySem.W.findIn K (.ref C_NoFact) "__class__" = some (some (.builtin "object.__class__")))
    (x5_NoFact : PySem.W.mroIn K C_NoFact (.type "object") = some true)
    (e1_NoPrime : PySem.W.excIn K C_NoPrime [.type "ValueError", .type "Exception", .type "BaseException", .type "object"] "ValueError.__new__" = true)
    (e2_NoPrime : PySem.W.keepIn K (.ref C_NoPrime) = true)
    (e3_NoPrime : PySem.W.subIn K (.ref C_NoPrime) (.type "BaseException") = some true)
    (e4_NoPrime : PySem.W.typeIn K (.ref C_NoPrime) = some (.type "type"))
    (x1_NoPrime : PySem.W.findIn K (.ref C_NoPrime) "__getattribute__" = some (some (.builtin "BaseException.__getattribute__")))
    (x2_NoPrime : PySem.W.findIn K (.ref C_NoPrime) "__getattr__" = some none)
    (x3_NoPrime : PySem.W.hasDictIn K C_NoPrime = true)
    (x4_NoPrime : PySem.W.findIn K (.ref C_NoPrime) "__class__" = some (some (.builtin "object.__class__")))
    (x5_NoPrime : PySem.W.mroIn K C_NoPrime (.type "object") = some true)
    (e1_NoText : PySem.W.excIn K C_NoText [.type "ValueError", .type "Exception", .type "BaseException", .type "object"] "ValueError.__new__" = true)
    (e2_NoText : PySem.W.keepIn K (.ref C_NoText) = true)
    (e3_NoText : PySem.W.subIn K (.ref C_NoText) (.type "BaseException") = some true)
    (e4_NoText : PySem.W.typeIn K (.ref C_NoText) = some (.type "type"))
    (x1_NoText : PySem.W.findIn K (.ref C_NoText) "__getattribute__" = some (some (.builtin "BaseException.__getattribute__")))
    (x2_NoText : PySem.W.findIn K (.ref C_NoText) "__getattr__" = some none)
    (x3_NoText : PySem.W.hasDictIn K C_NoText = true)
    (x4_NoText : PySem.W.findIn K (.ref C_NoText) "__class__" = some (some (.builtin "object.__class__")))
    (x5_NoText : PySem.W.mroIn K C_NoText (.type "object") = some true)
    (y1 : PySem.W.specialIn K (.builtin "object.__class__") "__get__" = some (some (.builtin "getset_descriptor.__get__")))
    (y2 : PySem.W.takesIn K (.builtin "object.__class__") = some true)
    (z_abs : PySem.W.nsIn K mainGlobals "abs" = some none)
    (z_all : PySem.W.nsIn K mainGlobals "all" = some none)
    (z_bool : PySem.W.nsIn K mainGlobals "bool" = some none)
    (z_int : PySem.W.nsIn K mainGlobals "int" = some none)
    (z_isinstance : PySem.W.nsIn K mainGlobals "isinstance" = some none)
    (z_len : PySem.W.nsIn K mainGlobals "len" = some none)
    (z_list : PySem.W.nsIn K mainGlobals "list" = some none)
    (z_ord : PySem.W.nsIn K mainGlobals "ord" = some none)
    (z_range : PySem.W.nsIn K mainGlobals "range" = some none)
    (z_str : PySem.W.nsIn K mainGlobals "str" = some none)
    (z_tuple : PySem.W.nsIn K mainGlobals "tuple" = some none)
    (z_zip : PySem.W.nsIn K mainGlobals "zip" = some none)
    (v_NoFact_NoFact : PySem.W.exmOne K (.ref C_NoFact) (.ref C_NoFact) = some true)
    (w_NoFact_NoFact : PySem.W.kitOne K (.ref C_NoFact) (.ref C_NoFact) = some true)
    (v_NoFact_NoPrime : PySem.W.exmOne K (.ref C_NoFact) (.ref C_NoPrime) = some false)
    (w_NoFact_NoPrime : PySem.W.kitOne K (.ref C_NoFact) (.ref C_NoPrime) = some false)
    (v_NoFact_NoText : PySem.W.exmOne K (.ref C_NoFact) (.ref C_NoText) = some false)
    (w_NoFact_NoText : PySem.W.kitOne K (.ref C_NoFact) (.ref C_NoText) = some false)
    (v_NoFact_ViewError : PySem.W.exmOne K (.ref C_NoFact) (.ref C_ViewError) = some true)
    (w_NoFact_ViewError : PySem.W.kitOne K (.ref C_NoFact) (.ref C_ViewError) = some true)
    (w_NoFact_VE : PySem.W.kitOne K (.ref C_NoFact) (.type "ValueError") = some true)
    (v_NoPrime_NoFact : PySem.W.exmOne K (.ref C_NoPrime) (.ref C_NoFact) = some false)
    (w_NoPrime_NoFact : PySem.W.kitOne K (.ref C_NoPrime) (.ref C_NoFact) = some false)
    (v_NoPrime_NoPrime : PySem.W.exmOne K (.ref C_NoPrime) (.ref C_NoPrime) = some true)
    (w_NoPrime_NoPrime : PySem.W.kitOne K (.ref C_NoPrime) (.ref C_NoPrime) = some true)
    (v_NoPrime_NoText : PySem.W.exmOne K (.ref C_NoPrime) (.ref C_NoText) = some false)
    (w_NoPrime_NoText : PySem.W.kitOne K (.ref C_NoPrime) (.ref C_NoText) = some false)
    (v_NoPrime_ViewError : PySem.W.exmOne K (.ref C_NoPrime) (.ref C_ViewError) = some true)
    (w_NoPrime_ViewError : PySem.W.kitOne K (.ref C_NoPrime) (.ref C_ViewError) = some true)
    (w_NoPrime_VE : PySem.W.kitOne K (.ref C_NoPrime) (.type "ValueError") = some true)
    (v_NoText_NoFact : PySem.W.exmOne K (.ref C_NoText) (.ref C_NoFact) = some false)
    (w_NoText_NoFact : PySem.W.kitOne K (.ref C_NoText) (.ref C_NoFact) = some false)
    (v_NoText_NoPrime : PySem.W.exmOne K (.ref C_NoText) (.ref C_NoPrime) = some false)
    (w_NoText_NoPrime : PySem.W.kitOne K (.ref C_NoText) (.ref C_NoPrime) = some false)
    (v_NoText_NoText : PySem.W.exmOne K (.ref C_NoText) (.ref C_NoText) = some true)
    (w_NoText_NoText : PySem.W.kitOne K (.ref C_NoText) (.ref C_NoText) = some true)
    (v_NoText_ViewError : PySem.W.exmOne K (.ref C_NoText) (.ref C_ViewError) = some true)
    (w_NoText_ViewError : PySem.W.kitOne K (.ref C_NoText) (.ref C_ViewError) = some true)
    (w_NoText_VE : PySem.W.kitOne K (.ref C_NoText) (.type "ValueError") = some true)
    (tb0 : PySem.W.codeHdIn K cc0 P0 = true)
    (tn0 : K.lookup P0 = none)
    : LamX.LawAtS l w K (L2.CX l.prog w) 10 63 "script" mg fa h := by
  have e : fa = f42 := Value.ref.inj (Option.some.inj (hfa.symm.trans (PySem.W.mg_of X G a42)))
  subst e
  have F0 := fun_mk (st := st_is_integer) l0 c0 k0
  have b0 := F0.binds (ps := ["thing"]) fun _ _ _ _ _ _ us hl => match us, hl with | [_], _ => rfl
  have F1 := fun_mk (st := st_is_within) l1 c1 k1
  have b1 := F1.binds (ps := ["thing", "least", "most"]) fun _ _ _ _ _ _ us hl => match us, hl with | [_, _, _], _ => rfl
  have F2 := fun_mk (st := st_is_sized) l2 c2 k2
  have b2 := F2.binds (ps := ["thing", "least", "most"]) fun _ _ _ _ _ _ us hl => match us, hl with | [_, _, _], _ => rfl
  have F3 := fun_mk (st := st_is_word) l3 c3 k3
  have b3 := F3.binds (ps := ["thing"]) fun _ _ _ _ _ _ us hl => match us, hl with | [_], _ => rfl
  have F4 := fun_mk (st := st_is_cell) l4 c4 k4
  have b4 := F4.binds (ps := ["thing"]) fun _ _ _ _ _ _ us hl => match us, hl with | [_], _ => rfl
  have F5 := fun_mk (st := st_is_row_of_cells) l5 c5 k5
  have b5 := F5.binds (ps := ["thing"]) fun _ _ _ _ _ _ us hl => match us, hl with | [_], _ => rfl
  have F6 := fun_mk (st := st_is_name) l6 c6 k6
  have b6 := F6.binds (ps := ["thing"]) fun _ _ _ _ _ _ us hl => match us, hl with | [_], _ => rfl
  have F7 := fun_mk (st := st_check_prime) l7 c7 k7
  have b7 := F7.binds (ps := ["p"]) fun _ _ _ _ _ _ us hl => match us, hl with | [_], _ => rfl
  have F8 := fun_mk (st := st_raw_mix) l8 c8 k8
  have b8 := F8.binds (ps := ["p", "text"]) fun _ _ _ _ _ _ us hl => match us, hl with | [_, _], _ => rfl
  have F9 := fun_mk (st := st_mix) l9 c9 k9
  have b9 := F9.binds (ps := ["p", "text"]) fun _ _ _ _ _ _ us hl => match us, hl with | [_, _], _ => rfl
  have F10 := fun_mk (st := st_is_text) l10 c10 k10
  have b10 := F10.binds (ps := ["thing"]) fun _ _ _ _ _ _ us hl => match us, hl with | [_], _ => rfl
  have F11 := fun_mk (st := st_is_fact) l11 c11 k11
  have b11 := F11.binds (ps := ["thing"]) fun _ _ _ _ _ _ us hl => match us, hl with | [_], _ => rfl
  have F12 := fun_mk (st := st_worth_text) l12 c12 k12
  have b12 := F12.binds (ps := ["worth"]) fun _ _ _ _ _ _ us hl => match us, hl with | [_], _ => rfl
  have F13 := fun_mk (st := st_raw_fact_text) l13 c13 k13
  have b13 := F13.binds (ps := ["fact"]) fun _ _ _ _ _ _ us hl => match us, hl with | [_], _ => rfl
  have F14 := fun_mk (st := st_check_fact) l14 c14 k14
  have b14 := F14.binds (ps := ["fact"]) fun _ _ _ _ _ _ us hl => match us, hl with | [_], _ => rfl
  have F15 := fun_mk (st := st_fact_text) l15 c15 k15
  have b15 := F15.binds (ps := ["fact"]) fun _ _ _ _ _ _ us hl => match us, hl with | [_], _ => rfl
  have F16 := fun_mk (st := st_raw_number_of) l16 c16 k16
  have b16 := F16.binds (ps := ["p", "fact"]) fun _ _ _ _ _ _ us hl => match us, hl with | [_, _], _ => rfl
  have F17 := fun_mk (st := st_number_of) l17 c17 k17
  have b17 := F17.binds (ps := ["p", "fact"]) fun _ _ _ _ _ _ us hl => match us, hl with | [_, _], _ => rfl
  have F18 := fun_mk (st := st_l_hand) l18 c18 k18
  have b18 := F18.binds (ps := ["script"]) fun _ _ _ _ _ _ us hl => match us, hl with | [_], _ => rfl
  have F19 := fun_mk (st := st_l_draw) l19 c19 k19
  have b19 := F19.binds (ps := ["hand", "many"]) fun _ _ _ _ _ _ us hl => match us, hl with | [_, _], _ => rfl
  have F20 := fun_mk (st := st_l_some) l20 c20 k20
  have b20 := F20.binds (ps := ["hand", "things"]) fun _ _ _ _ _ _ us hl => match us, hl with | [_, _], _ => rfl
  have F21 := fun_mk (st := st_l_mix) l21 c21 k21
  have b21 := F21.binds (ps := ["p", "text"]) fun _ _ _ _ _ _ us hl => match us, hl with | [_, _], _ => rfl
  have F22 := fun_mk (st := st_l_worth_text) l22 c22 k22
  have b22 := F22.binds (ps := ["worth"]) fun _ _ _ _ _ _ us hl => match us, hl with | [_], _ => rfl
  have F23 := fun_mk (st := st_l_fact_text) l23 c23 k23
  have b23 := F23.binds (ps := ["fact"]) fun _ _ _ _ _ _ us hl => match us, hl with | [_], _ => rfl
  have F24 := fun_mk (st := st_l_number) l24 c24 k24
  have b24 := F24.binds (ps := ["p", "fact"]) fun _ _ _ _ _ _ us hl => match us, hl with | [_, _], _ => rfl
  have F25 := fun_mk (st := st_l_deep) l25 c25 k25
  have b25 := F25.binds (ps := ["hand"]) fun _ _ _ _ _ _ us hl => match us, hl with | [_], _ => rfl
  have F26 := fun_mk (st := st_l_odd) l26 c26 k26
  have b26 := F26.binds (ps := ["hand"]) fun _ _ _ _ _ _ us hl => match us, hl with | [_], _ => rfl
  have F27 := fun_mk (st := st_l_odd_prime) l27 c27 k27
  have b27 := F27.binds (ps := ["hand"]) fun _ _ _ _ _ _ us hl => match us, hl with | [_], _ => rfl
  have F28 := fun_mk (st := st_l_is_prime) l28 c28 k28
  have b28 := F28.binds (ps := ["thing"]) fun _ _ _ _ _ _ us hl => match us, hl with | [_], _ => rfl
  have F29 := fun_mk (st := st_l_is_text) l29 c29 k29
  have b29 := F29.binds (ps := ["thing"]) fun _ _ _ _ _ _ us hl => match us, hl with | [_], _ => rfl
  have F30 := fun_mk (st := st_l_is_worth) l30 c30 k30
  have b30 := F30.binds (ps := ["thing"]) fun _ _ _ _ _ _ us hl => match us, hl with | [_], _ => rfl
  have F31 := fun_mk (st := st_l_is_name) l31 c31 k31
  have b31 := F31.binds (ps := ["thing"]) fun _ _ _ _ _ _ us hl => match us, hl with | [_], _ => rfl
  have F32 := fun_mk (st := st_l_is_fact) l32 c32 k32
  have b32 := F32.binds (ps := ["thing"]) fun _ _ _ _ _ _ us hl => match us, hl with | [_], _ => rfl
  have F33 := fun_mk (st := st_l_bent_fact) l33 c33 k33
  have b33 := F33.binds (ps := ["hand", "fact"]) fun _ _ _ _ _ _ us hl => match us, hl with | [_, _], _ => rfl
  have F34 := fun_mk (st := st_l_prime) l34 c34 k34
  have b34 := F34.binds (ps := ["hand"]) fun _ _ _ _ _ _ us hl => match us, hl with | [_], _ => rfl
  have F35 := fun_mk (st := st_l_worth) l35 c35 k35
  have b35 := F35.binds (ps := ["hand"]) fun _ _ _ _ _ _ us hl => match us, hl with | [_], _ => rfl
  have F36 := fun_mk (st := st_l_fact) l36 c36 k36
  have b36 := F36.binds (ps := ["hand"]) fun _ _ _ _ _ _ us hl => match us, hl with | [_], _ => rfl
  have F37 := fun_mk (st := st_l_is) l37 c37 k37
  have b37 := F37.binds (ps := ["told", "due"]) fun _ _ _ _ _ _ us hl => match us, hl with | [_, _], _ => rfl
  have F38 := fun_mk (st := st_l_text) l38 c38 k38
  have b38 := F38.binds (ps := ["hand"]) fun _ _ _ _ _ _ us hl => match us, hl with | [_], _ => rfl
  have F39 := fun_mk (st := st_l_word) l39 c39 k39
  have b39 := F39.binds (ps := ["call"]) fun _ _ _ _ _ _ us hl => match us, hl with | [_], _ => rfl
  have F40 := fun_mk (st := st_l_is_due) l40 c40 k40
  have b40 := F40.binds (ps := ["told", "due"]) fun _ _ _ _ _ _ us hl => match us, hl with | [_, _], _ => rfl
  have F41 := fun_mk (st := st_l_refused_right) l41 c41 k41
  have b41 := F41.binds (ps := ["hand"]) fun _ _ _ _ _ _ us hl => match us, hl with | [_], _ => rfl
  have F42 := fun_mk (st := st_law) l42 c42 k42
  have b42 := F42.binds (ps := ["script"]) fun _ _ _ _ _ _ us hl => match us, hl with | [_], _ => rfl
  have m_NoFact := PySem.W.mg_of X G g_NoFact
  have m_NoPrime := PySem.W.mg_of X G g_NoPrime
  have m_NoText := PySem.W.mg_of X G g_NoText
  have m_ViewError := PySem.W.mg_of X G g_ViewError
  let t : Txt K mg (clM mg) (fun i => [cc0].getD i 0) := {
    is_integer := ⟨f0, _, F0, PySem.W.mg_of X G a0, b0⟩,
    is_within := ⟨f1, _, F1, PySem.W.mg_of X G a1, b1⟩,
    is_sized := ⟨f2, _, F2, PySem.W.mg_of X G a2, b2⟩,
    is_word := ⟨f3, _, F3, PySem.W.mg_of X G a3, b3⟩,
    is_cell := ⟨f4, _, F4, PySem.W.mg_of X G a4, b4⟩,
    is_row_of_cells := ⟨f5, _, F5, PySem.W.mg_of X G a5, b5⟩,
    is_name := ⟨f6, _, F6, PySem.W.mg_of X G a6, b6⟩,
    check_prime := ⟨f7, _, F7, PySem.W.mg_of X G a7, b7⟩,
    raw_mix := ⟨f8, _, F8, PySem.W.mg_of X G a8, b8⟩,
    mix := ⟨f9, _, F9, PySem.W.mg_of X G a9, b9⟩,
    is_text := ⟨f10, _, F10, PySem.W.mg_of X G a10, b10⟩,
    is_fact := ⟨f11, _, F11, PySem.W.mg_of X G a11, b11⟩,
    worth_text := ⟨f12, _, F12, PySem.W.mg_of X G a12, b12⟩,
    raw_fact_text := ⟨f13, _, F13, PySem.W.mg_of X G a13, b13⟩,
    check_fact := ⟨f14, _, F14, PySem.W.mg_of X G a14, b14⟩,
    fact_text := ⟨f15, _, F15, PySem.W.mg_of X G a15, b15⟩,
    raw_number_of := ⟨f16, _, F16, PySem.W.mg_of X G a16, b16⟩,
    number_of := ⟨f17, _, F17, PySem.W.mg_of X G a17, b17⟩,
    l_hand := ⟨f18, _, F18, PySem.W.mg_of X G a18, b18⟩,
    l_draw := ⟨f19, _, F19, PySem.W.mg_of X G a19, b19⟩,
    l_some := ⟨f20, _, F20, PySem.W.mg_of X G a20, b20⟩,
    l_mix := ⟨f21, _, F21, PySem.W.mg_of X G a21, b21⟩,
    l_worth_text := ⟨f22, _, F22, PySem.W.mg_of X G a22, b22⟩,
    l_fact_text := ⟨f23, _, F23, PySem.W.mg_of X G a23, b23⟩,
    l_number := ⟨f24, _, F24, PySem.W.mg_of X G a24, b24⟩,
    l_deep := ⟨f25, _, F25, PySem.W.mg_of X G a25, b25⟩,
    l_odd := ⟨f26, _, F26, PySem.W.mg_of X G a26, b26⟩,
    l_odd_prime := ⟨f27, _, F27, PySem.W.mg_of X G a27, b27⟩,
    l_is_prime := ⟨f28, _, F28, PySem.W.mg_of X G a28, b28⟩,
    l_is_text := ⟨f29, _, F29, PySem.W.mg_of X G a29, b29⟩,
    l_is_worth := ⟨f30, _, F30, PySem.W.mg_of X G a30, b30⟩,
    l_is_name := ⟨f31, _, F31, PySem.W.mg_of X G a31, b31⟩,
    l_is_fact := ⟨f32, _, F32, PySem.W.mg_of X G a32, b32⟩,
    l_bent_fact := ⟨f33, _, F33, PySem.W.mg_of X G a33, b33⟩,
    l_prime := ⟨f34, _, F34, PySem.W.mg_of X G a34, b34⟩,
    l_worth := ⟨f35, _, F35, PySem.W.mg_of X G a35, b35⟩,
    l_fact := ⟨f36, _, F36, PySem.W.mg_of X G a36, b36⟩,
    l_is := ⟨f37, _, F37, PySem.W.mg_of X G a37, b37⟩,
    l_text := ⟨f38, _, F38, PySem.W.mg_of X G a38, b38⟩,
    l_word := ⟨f39, _, F39, PySem.W.mg_of X G a39, b39⟩,
    l_is_due := ⟨f40, _, F40, PySem.W.mg_of X G a40, b40⟩,
    l_refused_right := ⟨f41, _, ⟨oc41, od41, kV41, dc41, pm41, an41, ct41, sl41, rfl, l41, c41⟩, k41, PySem.W.mg_of X G a41, b41⟩,
    law := ⟨fa, _, F42, PySem.W.mg_of X G a42, b42⟩,
    c_LEAST_PRIME := ⟨t_LEAST_PRIME, PySem.W.mg_of X G n_LEAST_PRIME⟩,
    c_MOST_LETTERS := ⟨t_MOST_LETTERS, PySem.W.mg_of X G n_MOST_LETTERS⟩,
    c_MOST_PLACES := ⟨t_MOST_PLACES, PySem.W.mg_of X G n_MOST_PLACES⟩,
    c_MOST_PRIME := ⟨t_MOST_PRIME, PySem.W.mg_of X G n_MOST_PRIME⟩,
    c_MOST_SIGNS := ⟨t_MOST_SIGNS, PySem.W.mg_of X G n_MOST_SIGNS⟩,
    c_RULE := ⟨t_RULE, PySem.W.mg_of X G n_RULE⟩,
    k_NoFact := cls_at m_NoFact,
    k_NoPrime := cls_at m_NoPrime,
    k_NoText := cls_at m_NoText,
    k_ViewError := cls_at m_ViewError,
    r_NoFact := err_at m_NoFact e1_NoFact e2_NoFact e3_NoFact e4_NoFact,
    r_NoPrime := err_at m_NoPrime e1_NoPrime e2_NoPrime e3_NoPrime e4_NoPrime,
    r_NoText := err_at m_NoText e1_NoText e2_NoText e3_NoText e4_NoText,
    z_abs := PySem.W.mg_none_of X G z_abs,
    z_all := PySem.W.mg_none_of X G z_all,
    z_bool := PySem.W.mg_none_of X G z_bool,
    z_int := PySem.W.mg_none_of X G z_int,
    z_isinstance := PySem.W.mg_none_of X G z_isinstance,
    z_len := PySem.W.mg_none_of X G z_len,
    z_list := PySem.W.mg_none_of X G z_list,
    z_ord := PySem.W.mg_none_of X G z_ord,
    z_range := PySem.W.mg_none_of X G z_range,
    z_str := PySem.W.mg_none_of X G z_str,
    z_tuple := PySem.W.mg_none_of X G z_tuple,
    z_zip := PySem.W.mg_none_of X G z_zip }
  have X_NoFact : ExcC K C_NoFact := ⟨x1_NoFact, x2_NoFact, e3_NoFact, x3_NoFact, x4_NoFact, y1, y2, x5_NoFact⟩
  have X_NoPrime : ExcC K C_NoPrime := ⟨x1_NoPrime, x2_NoPrime, e3_NoPrime, x3_NoPrime, x4_NoPrime, y1, y2, x5_NoPrime⟩
  have X_NoText : ExcC K C_NoText := ⟨x1_NoText, x2_NoText, e3_NoText, x3_NoText, x4_NoText, y1, y2, x5_NoText⟩
  have FF : Facts K (clM mg) := by
    constructor <;> simp only [clM_of m_NoFact, clM_of m_NoPrime, clM_of m_NoText, clM_of m_ViewError] <;> assumption
  have BB : ∀ (s : Shared) (u : Value), BindsTo s (PySem.W.fnOf "law" "law" (defArgs st_law) (defBody st_law) (defScope st_law) .none kV42 dc42 pm42 an42 cd42 ct42) ⟨[u], []⟩ [("script", u)] := fun s u => .of_eq rfl
  have h1 : ∀ p ∈ ([(cc0, P0)] : List (Addr × Addr)), h.get? p.2 = some { cls := .none, data := .fields #[] } := fun p hp => by
    simp only [List.mem_cons, List.not_mem_nil, or_false] at hp
    rcases hp with rfl
    · exact hP0
  have h2 : ∀ p ∈ ([(cc0, P0)] : List (Addr × Addr)), K.lookup p.2 = none := fun p hp => by
    simp only [List.mem_cons, List.not_mem_nil, or_false] at hp
    rcases hp with rfl
    · exact tn0
  have h3 : ∀ p ∈ ([(cc0, P0)] : List (Addr × Addr)), PySem.W.CodeHd h p.1 p.2 := fun p hp => by
    simp only [List.mem_cons, List.not_mem_nil, or_false] at hp
    rcases hp with rfl
    · exact PySem.W.codeHd_of_K X tb0
  refine ⟨_, [(cc0, P0)], spD K [(P0, (envOfC "_law_refused_right" (defScope st_l_refused_right) 0 0 .none).qual ++ "<lambda>")] 1 (G_law K (clM mg)), h1, h2, h3, fun s u => BB s u, fun H a ns hl hbits hT hS => ?_, fun base _ _ hTB => ?_⟩
  · have hTT : LamX.Tabs [(P0, (envOfC "_law_refused_right" (defScope st_l_refused_right) 0 0 .none).qual ++ "<lambda>")] H := fun p hp => by
      simp only [List.mem_cons, List.not_mem_nil, or_false] at hp
      rcases hp with rfl
      · exact LamX.TabS.nil (hT (cc0, P0) (List.mem_cons_self ..))
    exact law_sp hTT hS fun d m hd => law_ok FF hd
  · have MM : Mks base mg (fun i => [cc0].getD i 0) (fun i => [P0].getD i 0) [(P0, (envOfC "_law_refused_right" (defScope st_l_refused_right) 0 0 .none).qual ++ "<lambda>")] := ⟨⟨hTB (cc0, P0) (List.mem_cons_self ..), List.mem_cons_self .., fun p hp e => by
        simp only [List.mem_cons, List.not_mem_nil, or_false] at hp
        rcases hp with rfl
        · rfl⟩⟩
    exact ok_law t MM
end K27
open PySem PySem.W PyProof.Rows
set_option maxRecDepth 100000 in
set_option maxHeartbeats 0 in
theorem PySem.Challenge.cw_shownviews_k27_whole_mixing_texts_number_holds : PySem.Challenge.rw_shownviews_k27_whole_mixing_texts_number.Holds := by
  w_on; o_law; k_head; (case hw => w_witness2)
  k_fill
  refine LamX.walk_ofTs (l := PySem.Challenge.rw_shownviews_k27_whole_mixing_texts_number) (n := 63) (k := 10) (x := "script") (CX := fun w => L2.CX (PySem.W.OpenLaw.prog PySem.Challenge.rw_shownviews_k27_whole_mixing_texts_number) w) rfl (by decide) rfl ⟨rfl, by decide, by decide⟩ (fun w h Y => PySem.W.km_in_of Y) ?F (fun w H s e s' z => DL.CX_no z)
  case F =>
    intro w mg fa h Y KX G hmg
    have hT8 := PySem.W.km_tabs_of Y
    refine' K27.all_mk KX G hmg (hT8 _ (List.mem_cons_self ..)) ?a0 ?l0 ?c0 ?k0 ?a1 ?l1 ?c1 ?k1 ?a2 ?l2 ?c2 ?k2 ?a3 ?l3 ?c3 ?k3 ?a4 ?l4 ?c4 ?k4 ?a5 ?l5 ?c5 ?k5 ?a6 ?l6 ?c6 ?k6 ?a7 ?l7 ?c7 ?k7 ?a8 ?l8 ?c8 ?k8 ?a9 ?l9 ?c9 ?k9 ?a10 ?l10 ?c10 ?k10 ?a11 ?l11 ?c11 ?k11 ?a12 ?l12 ?c12 ?k12 ?a13 ?l13 ?c13 ?k13 ?a14 ?l14 ?c14 ?k14 ?a15 ?l15 ?c15 ?k15 ?a16 ?l16 ?c16 ?k16 ?a17 ?l17 ?c17 ?k17 ?a18 ?l18 ?c18 ?k18 ?a19 ?l19 ?c19 ?k19 ?a20 ?l20 ?c20 ?k20 ?a21 ?l21 ?c21 ?k21 ?a22 ?l22 ?c22 ?k22 ?a23 ?l23 ?c23 ?k23 ?a24 ?l24 ?c24 ?k24 ?a25 ?l25 ?c25 ?k25 ?a26 ?l26 ?c26 ?k26 ?a27 ?l27 ?c27 ?k27 ?a28 ?l28 ?c28 ?k28 ?a29 ?l29 ?c29 ?k29 ?a30 ?l30 ?c30 ?k30 ?a31 ?l31 ?c31 ?k31 ?a32 ?l32 ?c32 ?k32 ?a33 ?l33 ?c33 ?k33 ?a34 ?l34 ?c34 ?k34 ?a35 ?l35 ?c35 ?k35 ?a36 ?l36 ?c36 ?k36 ?a37 ?l37 ?c37 ?k37 ?a38 ?l38 ?c38 ?k38 ?a39 ?l39 ?c39 ?k39 ?a40 ?l40 ?c40 ?k40 ?a41 ?l41 ?c41 ?k41 ?a42 ?l42 ?c42 ?k42 ?n_LEAST_PRIME ?n_MOST_LETTERS ?n_MOST_PLACES ?n_MOST_PRIME ?n_MOST_SIGNS ?n_RULE ?g_NoFact ?g_NoPrime ?g_NoText ?g_ViewError ?e1_NoFact ?e2_NoFact ?e3_NoFact ?e4_NoFact ?x1_NoFact ?x2_NoFact ?x3_NoFact ?x4_NoFact ?x5_NoFact ?e1_NoPrime ?e2_NoPrime ?e3_NoPrime ?e4_NoPrime ?x1_NoPrime ?x2_NoPrime ?x3_NoPrime ?x4_NoPrime ?x5_NoPrime ?e1_NoText ?e2_NoText ?e3_NoText ?e4_NoText ?x1_NoText ?x2_NoText ?x3_NoText ?x4_NoText ?x5_NoText ?y1 ?y2 ?z_abs ?z_all ?z_bool ?z_int ?z_isinstance ?z_len ?z_list ?z_ord ?z_range ?z_str ?z_tuple ?z_zip ?v_NoFact_NoFact ?w_NoFact_NoFact ?v_NoFact_NoPrime ?w_NoFact_NoPrime ?v_NoFact_NoText ?w_NoFact_NoText ?v_NoFact_ViewError ?w_NoFact_ViewError ?w_NoFact_VE ?v_NoPrime_NoFact ?w_NoPrime_NoFact ?v_NoPrime_NoPrime ?w_NoPrime_NoPrime ?v_NoPrime_NoText ?w_NoPrime_NoText ?v_NoPrime_ViewError ?w_NoPrime_ViewError ?w_NoPrime_VE ?v_NoText_NoFact ?w_NoText_NoFact ?v_NoText_NoPrime ?w_NoText_NoPrime ?v_NoText_NoText ?w_NoText_NoText ?v_NoText_ViewError ?w_NoText_ViewError ?w_NoText_VE ?tb0 ?tn0
    (case a0 => k_is); (case l0 => k_is); (case c0 => k_is); (case k0 => k_is); (case a1 => k_is); (case l1 => k_is); (case c1 => k_is); (case k1 => k_is); (case a2 => k_is)
    (case l2 => k_is); (case c2 => k_is); (case k2 => k_is); (case a3 => k_is); (case l3 => k_is); (case c3 => k_is); (case k3 => k_is); (case a4 => k_is); (case l4 => k_is)
    (case c4 => k_is); (case k4 => k_is); (case a5 => k_is); (case l5 => k_is); (case c5 => k_is); (case k5 => k_is); (case a6 => k_is); (case l6 => k_is); (case c6 => k_is)
    (case k6 => k_is); (case a7 => k_is); (case l7 => k_is); (case c7 => k_is); (case k7 => k_is); (case a8 => k_is); (case l8 => k_is); (case c8 => k_is); (case k8 => k_is)
    (case a9 => k_is); (case l9 => k_is); (case c9 => k_is); (case k9 => k_is); (case a10 => k_is); (case l10 => k_is); (case c10 => k_is); (case k10 => k_is); (case a11 => k_is)
    (case l11 => k_is); (case c11 => k_is); (case k11 => k_is); (case a12 => k_is); (case l12 => k_is); (case c12 => k_is); (case k12 => k_is); (case a13 => k_is)
    (case l13 => k_is); (case c13 => k_is); (case k13 => k_is); (case a14 => k_is); (case l14 => k_is); (case c14 => k_is); (case k14 => k_is); (case a15 => k_is)
    (case l15 => k_is); (case c15 => k_is); (case k15 => k_is); (case a16 => k_is); (case l16 => k_is); (case c16 => k_is); (case k16 => k_is); (case a17 => k_is)
    (case l17 => k_is); (case c17 => k_is); (case k17 => k_is); (case a18 => k_is); (case l18 => k_is); (case c18 => k_is); (case k18 => k_is); (case a19 => k_is)
    (case l19 => k_is); (case c19 => k_is); (case k19 => k_is); (case a20 => k_is); (case l20 => k_is); (case c20 => k_is); (case k20 => k_is); (case a21 => k_is)
    (case l21 => k_is); (case c21 => k_is); (case k21 => k_is); (case a22 => k_is); (case l22 => k_is); (case c22 => k_is); (case k22 => k_is); (case a23 => k_is)
    (case l23 => k_is); (case c23 => k_is); (case k23 => k_is); (case a24 => k_is); (case l24 => k_is); (case c24 => k_is); (case k24 => k_is); (case a25 => k_is)
    (case l25 => k_is); (case c25 => k_is); (case k25 => k_is); (case a26 => k_is); (case l26 => k_is); (case c26 => k_is); (case k26 => k_is); (case a27 => k_is)
    (case l27 => k_is); (case c27 => k_is); (case k27 => k_is); (case a28 => k_is); (case l28 => k_is); (case c28 => k_is); (case k28 => k_is); (case a29 => k_is)
    (case l29 => k_is); (case c29 => k_is); (case k29 => k_is); (case a30 => k_is); (case l30 => k_is); (case c30 => k_is); (case k30 => k_is); (case a31 => k_is)
    (case l31 => k_is); (case c31 => k_is); (case k31 => k_is); (case a32 => k_is); (case l32 => k_is); (case c32 => k_is); (case k32 => k_is); (case a33 => k_is)
    (case l33 => k_is); (case c33 => k_is); (case k33 => k_is); (case a34 => k_is); (case l34 => k_is); (case c34 => k_is); (case k34 => k_is); (case a35 => k_is)
    (case l35 => k_is); (case c35 => k_is); (case k35 => k_is); (case a36 => k_is); (case l36 => k_is); (case c36 => k_is); (case k36 => k_is); (case a37 => k_is)
    (case l37 => k_is); (case c37 => k_is); (case k37 => k_is); (case a38 => k_is); (case l38 => k_is); (case c38 => k_is); (case k38 => k_is); (case a39 => k_is)
    (case l39 => k_is); (case c39 => k_is); (case k39 => k_is); (case a40 => k_is); (case l40 => k_is); (case c40 => k_is); (case k40 => k_is); (case a41 => k_is)
    (case l41 => k_is); (case c41 => k_is); (case k41 => k_is); (case a42 => k_is); (case l42 => k_is); (case c42 => k_is); (case k42 => k_is); (case n_LEAST_PRIME => k_is)
    (case n_MOST_LETTERS => k_is); (case n_MOST_PLACES => k_is); (case n_MOST_PRIME => k_is); (case n_MOST_SIGNS => k_is); (case n_RULE => k_is); (case g_NoFact => k_is)
    (case g_NoPrime => k_is); (case g_NoText => k_is); (case g_ViewError => k_is); (case e1_NoFact => kernel_rfl); (case e2_NoFact => k_is); (case e3_NoFact => k_is)
    (case e4_NoFact => k_is); (case x1_NoFact => k_is); (case x2_NoFact => k_is); (case x3_NoFact => k_is); (case x4_NoFact => k_is); (case x5_NoFact => k_is); (case e1_NoPrime => kernel_rfl)
    (case e2_NoPrime => k_is); (case e3_NoPrime => k_is); (case e4_NoPrime => k_is); (case x1_NoPrime => k_is); (case x2_NoPrime => k_is); (case x3_NoPrime => k_is)
    (case x4_NoPrime => k_is); (case x5_NoPrime => k_is); (case e1_NoText => kernel_rfl); (case e2_NoText => k_is); (case e3_NoText => k_is); (case e4_NoText => k_is)
    (case x1_NoText => k_is); (case x2_NoText => k_is); (case x3_NoText => k_is); (case x4_NoText => k_is); (case x5_NoText => k_is); (case y1 => k_is); (case y2 => k_is)
    (case z_abs => k_is); (case z_all => k_is); (case z_bool => k_is); (case z_int => k_is); (case z_isinstance => k_is); (case z_len => k_is); (case z_list => k_is)
    (case z_ord => k_is); (case z_range => k_is); (case z_str => k_is); (case z_tuple => k_is); (case z_zip => k_is); (case v_NoFact_NoFact => kernel_rfl); (case w_NoFact_NoFact => kernel_rfl)
    (case v_NoFact_NoPrime => kernel_rfl); (case w_NoFact_NoPrime => kernel_rfl); (case v_NoFact_NoText => kernel_rfl); (case w_NoFact_NoText => kernel_rfl); (case v_NoFact_ViewError => kernel_rfl)
    (case w_NoFact_ViewError => kernel_rfl); (case w_NoFact_VE => kernel_rfl); (case v_NoPrime_NoFact => kernel_rfl); (case w_NoPrime_NoFact => kernel_rfl); (case v_NoPrime_NoPrime => kernel_rfl)
    (case w_NoPrime_NoPrime => kernel_rfl); (case v_NoPrime_NoText => kernel_rfl); (case w_NoPrime_NoText => kernel_rfl); (case v_NoPrime_ViewError => kernel_rfl)
    (case w_NoPrime_ViewError => kernel_rfl); (case w_NoPrime_VE => kernel_rfl); (case v_NoText_NoFact => kernel_rfl); (case w_NoText_NoFact => kernel_rfl); (case v_NoText_NoPrime => kernel_rfl)
    (case w_NoText_NoPrime => kernel_rfl); (case v_NoText_NoText => kernel_rfl); (case w_NoText_NoText => kernel_rfl); (case v_NoText_ViewError => kernel_rfl); (case w_NoText_ViewError => kernel_rfl)
    (case w_NoText_VE => kernel_rfl); (case tb0 => kernel_rfl); (case tn0 => kernel_rfl)

