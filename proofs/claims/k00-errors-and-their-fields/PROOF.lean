import PyProof.Rows.All
import HandS.ForMost
import HandS.ForExc
import HandS.Lambda
import HandS.CallSlots
import HandS.Wide
import HandS.WordsExc
import HandS.Flow
import HandS.Iter
import HandS.Comp
import HandS.TupAny
import HandS.IsInst
import HandS.Text
import HandS.Dict
import HandS.WordsDict
import HandS.Deep
import HandS.Zip
import HandS.RaiseMore
import KE.KDictPairs
import HandS.ExcIs
import HandS.ExcOwn
import HandS.DictTup
import HandS.SortRule
import HandS.SortInts
import KE.KDictWalk
import HandS.SetFor
import HandS.Strs
import HandS.TryOnly
import HandS.TupLe
import PyProof.StrOps2
import HandS.EndTab
import KE.KNestM
import HandS.ReplaceLit
import HandS.TupMul
import HandS.Style
import HandS.ReplaceList
import HandS.Codes
import PyProof.Rows.ReprOcc
import PyProof.Rows.RegStrFacts
import PyProof.ReprRoads
import PyProof.FitsReplace
import HandS.FStr
import KE.SortData
import PyProof.Rows.SortWalk
import OpenK.XHead
import KE.KExcSuper
import KE.KExcIs
import HandS.ExcInit
import HandS.ExcValue
import HandS.ExcBuiltin
import HandS.ExcField
import PyProof.ZipIter
import PyProof.ListNew
import HandS.Conv
import PySem.Challenge.RW_shownviews_k00_errors_and_their_fields
set_option Elab.async false
set_option linter.all false
set_option maxRecDepth 100000
/-! DLa: trees of data (D), a store of cells that change, what stands for what (Rep), results (R), readings. -/
namespace DL
open PySem PySem.Spec L2
open PyProof.Rows hiding St

/-- a tree of data -/
inductive D where
  | non | bl (b : Bool) | int (i : Int) | str (x : Str) | ty (n : String)
  | tup (l : List D) | tmp (l : List D) | lst (l : List D) | dic (ks : List Key) (vs : List D)
  | ref (a : Addr) | cell (n : Nat) | lam (f c : Addr) (q : Str) (ds : List D) (vs : List L2.V) | scr (ns : List Int) | err (c : Value) (ns : List Str) (vs : List D)
  deriving Inhabited

/-- a cell of the store -/
inductive C where
  | lst (l : List D) | dic (ks : List Key) (vs : List D) | ins (cl : Addr) (ns : List Str) (vs : List D) | dead
  deriving Inhabited

/-- a list that is never written any more -/
def FzL (K : PySem.W.Frag) (H : Hp) (a : Addr) (xs : List V) : Prop := ∃ o, H a = some (.frz o (.lst xs))
theorem FzL.sql {K : PySem.W.Frag} {H : Hp} {a : Addr} {xs : List V} (h : FzL K H a xs) : SqL K H a xs := .inl (.inr h)
/-- a tuple without a dict of its own -/
def TpL (K : PySem.W.Frag) (H : Hp) (a : Addr) (xs : List V) : Prop :=
  (∃ o, H a = some (.frz o (.tup xs)) ∧ o.dict = none) ∨
    ∃ (o : Obj) (its : Array Value) (n : Nat), K.lookup a = some o ∧ o.cls = .type "tuple" ∧ o.dict = none ∧ o.data = .seq its n ∧ its.size ≤ sizeLine ∧ Vals xs its.toList
theorem TpL.sqt {K : PySem.W.Frag} {H : Hp} {a : Addr} {xs : List V} (h : TpL K H a xs) : SqT K H a xs := by
  rcases h with ⟨o, h, _⟩ | ⟨o, its, n, h1, h2, _, h3⟩
  · exact .inl (.inr ⟨o, h⟩)
  · exact .inr ⟨o, its, n, h1, h2, h3⟩
/-- an exception object: its class, its fields -/
def ErrO (H : Hp) (c : Value) (oe : Obj) (ns : List Str) (xs : List V) : Prop := oe.cls = c ∧ (∃ us, oe.data = .fields us) ∧ ((ns = [] ∧ oe.dict = none) ∨ ∃ dx od, oe.dict = some dx ∧ H dx = some (.frz od (.xd (ns.zip xs))))
/-- a list of ints that the fragment knows -/
def KL (K : PySem.W.Frag) (a : Addr) (xs : List V) : Prop := ∃ (o : Obj) (its : Array Value) (n : Nat), K.lookup a = some o ∧ o.cls = .type "list" ∧ o.dict = none ∧ o.data = .seq its n ∧ its.size ≤ sizeLine ∧ Vals xs its.toList
mutual
def Rep (K : PySem.W.Frag) (μ : List Addr) (H : Hp) : D → V → Prop
  | .non, v => v = .non
  | .bl b, v => v = .bl b
  | .int i, v => v = .int i
  | .str x, v => v = .str x
  | .ty n, v => v = .ty n
  | .tup l, v => ∃ a xs, v = .ref a ∧ TpL K H a xs ∧ RepL K μ H l xs
  | .tmp l, v => ∃ a xs, v = .ref a ∧ SqT K H a xs ∧ RepL K μ H l xs
  | .lst l, v => ∃ a xs, v = .ref a ∧ FzL K H a xs ∧ RepL K μ H l xs
  | .dic ks vs, v => ∃ a xs o, v = .ref a ∧ H a = some (.frz o (.dK (ks.zip xs))) ∧ ks.length = vs.length ∧ RepL K μ H vs xs
  | .ref a, v => v = .ref a
  | .cell n, v => ∃ a, μ[n]? = some a ∧ v = .ref a
  | .lam f c q ds vs, v => v = .ref f ∧ H c = some (LamX.CodeO c q) ∧ RepL K μ H ds vs
  | .scr ns, v => ∃ a, v = .ref a ∧ KL K a (ns.map V.int)
  | .err c ns vs, v => ∃ a oe xs, v = .ref a ∧ H a = some (.frz oe (.ext fun _ => True)) ∧ ErrO H c oe ns xs ∧ ns.length = vs.length ∧ RepL K μ H vs xs
def RepL (K : PySem.W.Frag) (μ : List Addr) (H : Hp) : List D → List V → Prop
  | [], vs => vs = []
  | d :: ds, vs => ∃ x xs, vs = x :: xs ∧ Rep K μ H d x ∧ RepL K μ H ds xs
end

def Celled : Option HO → Prop
  | some (.lst _) => True
  | some (.dK _) => True
  | some (.ins _ _ _) => True
  | _ => False
theorem celled_cod {c : Addr} {q : Str} (h : Celled (some (LamX.CodeO c q))) : False := by
  unfold LamX.CodeO at h
  exact h
/-- what never changes stays -/
structure Kept (H H' : Hp) : Prop where
  tup : ∀ a xs, H a = some (.tup xs) → H' a = some (.tup xs)
  frz : ∀ a o u, H a = some (.frz o u) → H' a = some (.frz o u)
  cod : ∀ c q, H c = some (LamX.CodeO c q) → H' c = some (LamX.CodeO c q)
theorem Kept.refl (H : Hp) : Kept H H := ⟨fun _ _ h => h, fun _ _ _ h => h, fun _ _ h => h⟩
theorem Kept.trans {H H1 H2 : Hp} (a : Kept H H1) (b : Kept H1 H2) : Kept H H2 := ⟨fun c xs h => b.tup c xs (a.tup c xs h), fun c o u h => b.frz c o u (a.frz c o u h), fun c q h => b.cod c q (a.cod c q h)⟩
theorem Kept.new {H : Hp} {p : Addr} {o : HO} (h : H p = none) : Kept H (upd H p o) := ⟨fun a xs e => by rw [upd_ne (ne_of_none e h)]; exact e, fun a o u e => by rw [upd_ne (ne_of_none e h)]; exact e, fun a q e => by rw [upd_ne (ne_of_none e h)]; exact e⟩
theorem Kept.mut {H : Hp} {p : Addr} {o : HO} (h : Celled (H p)) : Kept H (upd H p o) := by
  have ne : ∀ a u, H a = some u → ¬ Celled (some u) → a ≠ p := fun a u e n z => by
    subst z
    rw [e] at h
    exact n h
  exact ⟨fun a xs e => by rw [upd_ne (ne a _ e (fun z => z))]; exact e, fun a o u e => by rw [upd_ne (ne a _ e (fun z => z))]; exact e, fun a q e => by rw [upd_ne (ne a _ e celled_cod)]; exact e⟩
theorem Kept.sqT {K : PySem.W.Frag} {H H' : Hp} {a : Addr} {xs : List V} (k : Kept H H') (h : SqT K H a xs) : SqT K H' a xs := by
  rcases h with (h | ⟨o, h⟩) | h
  · exact .inl (.inl (k.tup _ _ h))
  · exact .inl (.inr ⟨o, k.frz _ _ _ h⟩)
  · exact .inr h

theorem Kept.tpL {K : PySem.W.Frag} {H H' : Hp} {a : Addr} {xs : List V} (k : Kept H H') (h : TpL K H a xs) : TpL K H' a xs := h.imp (fun ⟨o, e, d⟩ => ⟨o, k.frz _ _ _ e, d⟩) id
section
variable {K : PySem.W.Frag} {μ μ' : List Addr} {H H' : Hp}
mutual
theorem Rep.keep (hk : Kept H H') (hm : μ <+: μ') : ∀ {d : D} {v : V}, Rep K μ H d v → Rep K μ' H' d v
  | .non, _, h => h
  | .bl _, _, h => h
  | .int _, _, h => h
  | .str _, _, h => h
  | .ty _, _, h => h
  | .tup l, _, h => by
    obtain ⟨a, xs, e, s, r⟩ := h
    exact ⟨a, xs, e, hk.tpL s, RepL.keep hk hm r⟩
  | .tmp l, _, h => by
    obtain ⟨a, xs, e, s, r⟩ := h
    exact ⟨a, xs, e, hk.sqT s, RepL.keep hk hm r⟩
  | .lst l, _, h => by
    obtain ⟨a, xs, e, s, r⟩ := h
    exact ⟨a, xs, e, s.imp fun o q => hk.frz _ _ _ q, RepL.keep hk hm r⟩
  | .dic ks vs, _, h => by
    obtain ⟨a, xs, o, e, s, n, r⟩ := h
    exact ⟨a, xs, o, e, hk.frz _ _ _ s, n, RepL.keep hk hm r⟩
  | .ref _, _, h => h
  | .cell n, _, h => by
    obtain ⟨a, e, q⟩ := h
    obtain ⟨t, rfl⟩ := hm
    refine ⟨a, ?_, q⟩
    rw [List.getElem?_append_left]
    · exact e
    · exact (List.getElem?_eq_some_iff.mp e).1
  | .lam f c q ds vs, _, h => ⟨h.1, hk.cod _ _ h.2.1, RepL.keep hk hm h.2.2⟩
  | .scr ns, _, h => h
  | .err c ns vs, _, h => by
    obtain ⟨a, oe, xs, e, s, ⟨z1, z2, z3⟩, n, r⟩ := h
    exact ⟨a, oe, xs, e, hk.frz _ _ _ s, ⟨z1, z2, z3.imp id fun ⟨dx, od, z4, z5⟩ => ⟨dx, od, z4, hk.frz _ _ _ z5⟩⟩, n, RepL.keep hk hm r⟩
theorem RepL.keep (hk : Kept H H') (hm : μ <+: μ') : ∀ {l : List D} {vs : List V}, RepL K μ H l vs → RepL K μ' H' l vs
  | [], _, h => h
  | d :: ds, _, h => by
    obtain ⟨x, xs, e, r, q⟩ := h
    exact ⟨x, xs, e, Rep.keep hk hm r, RepL.keep hk hm q⟩
end
end

/-! ### what is told of a state and what comes of it -/
def Stays (o : HO) (r : Option HO) : Prop := r = some o ∨ ∃ ps, o = .tbl ps
/-- from μ, H to μ', H': the store grows by new cells; what never changes stays; what is no cell stays -/
structure Ext (μ : List Addr) (H : Hp) (μ' : List Addr) (H' : Hp) : Prop where
  pre : μ <+: μ'
  kept : Kept H H'
  frame : ∀ a o, H a = some o → a ∉ μ → Stays o (H' a)
  fresh : ∀ a, a ∈ μ' → a ∉ μ → H a = none ∨ ∃ ps, H a = some (.tbl ps)
theorem Stays.trans {o : HO} {r : Option HO} {r2 : Option HO} (h : Stays o r) (h2 : ∀ o', r = some o' → Stays o' r2) : Stays o r2 := by
  rcases h with e | ⟨ps, e⟩
  · exact h2 _ e
  · exact .inr ⟨ps, e⟩
theorem Ext.refl (μ : List Addr) (H : Hp) : Ext μ H μ H := ⟨List.prefix_refl _, .refl H, fun _ _ h _ => .inl h, fun _ h n => absurd h n⟩
theorem Ext.trans {μ μ1 μ2 : List Addr} {H H1 H2 : Hp} (a : Ext μ H μ1 H1) (b : Ext μ1 H1 μ2 H2) : Ext μ H μ2 H2 := by
  refine ⟨a.pre.trans b.pre, a.kept.trans b.kept, fun c o h n => ?_, fun c h n => ?_⟩
  · rcases a.frame c o h n with e | e
    · by_cases hc : c ∈ μ1
      · rcases a.fresh c hc n with z | ⟨ps, z⟩
        · rw [h] at z; cases z
        · rw [h] at z; cases z; exact .inr ⟨ps, rfl⟩
      · exact b.frame c o e hc
    · exact .inr e
  · by_cases hc : c ∈ μ1
    · exact a.fresh c hc n
    · cases e : H c with
      | none => exact .inl rfl
      | some o =>
        rcases a.frame c o e n with z | ⟨ps, z⟩
        · rcases b.fresh c h hc with q | ⟨ps, q⟩
          · rw [q] at z; cases z
          · rw [q] at z; cases z; exact .inr ⟨ps, rfl⟩
        · exact .inr ⟨ps, by rw [z]⟩
/-- a new object that is no cell -/
theorem Ext.new {μ : List Addr} {H : Hp} {p : Addr} {o : HO} (h : H p = none) : Ext μ H μ (upd H p o) :=
  ⟨List.prefix_refl _, .new h, fun a u e _ => .inl (by rw [upd_ne (ne_of_none e h)]; exact e), fun _ h n => absurd h n⟩
/-- a new cell -/
theorem Ext.cell {μ : List Addr} {H : Hp} {p : Addr} {o : HO} (h : H p = none) : Ext μ H (μ ++ [p]) (upd H p o) :=
  ⟨List.prefix_append _ _, .new h, fun a u e _ => .inl (by rw [upd_ne (ne_of_none e h)]; exact e), fun a q n => by
    rcases List.mem_append.mp q with z | z
    · exact absurd z n
    · rw [List.mem_singleton.mp z]; exact .inl h⟩
/-- a cell is changed -/
theorem Ext.mut {μ : List Addr} {H : Hp} {p : Addr} {o : HO} (hp : p ∈ μ) (h : Celled (H p)) : Ext μ H μ (upd H p o) :=
  ⟨List.prefix_refl _, .mut h, fun a u e n => .inl (by rw [upd_ne (fun z => n (by rw [z]; exact hp))]; exact e), fun _ h n => absurd h n⟩

def CRep (K : PySem.W.Frag) (μ : List Addr) (H : Hp) : C → Addr → Prop
  | .lst l, a => ∃ xs, H a = some (.lst xs) ∧ RepL K μ H l xs
  | .dic ks vs, a => ∃ xs, H a = some (.dK (ks.zip xs)) ∧ ks.length = vs.length ∧ RepL K μ H vs xs
  | .ins cl ns vs, a => ∃ dx xs, H a = some (.ins cl dx (ns.zip xs)) ∧ ns.length = vs.length ∧ RepL K μ H vs xs
  | .dead, a => ∃ o, H a = some o ∧ ∀ ps, o ≠ .tbl ps
theorem CRep.there {K : PySem.W.Frag} {μ : List Addr} {H : Hp} : ∀ {c : C} {a : Addr}, CRep K μ H c a → ∃ o, H a = some o
  | .lst _, _, ⟨_, e, _⟩ => ⟨_, e⟩
  | .dic _ _, _, ⟨_, e, _⟩ => ⟨_, e⟩
  | .ins _ _ _, _, ⟨_, _, e, _⟩ => ⟨_, e⟩
  | .dead, _, ⟨_, e, _⟩ => ⟨_, e⟩
theorem CRep.mut {K : PySem.W.Frag} {μ : List Addr} {H : Hp} : ∀ {c : C} {a : Addr}, c ≠ .dead → CRep K μ H c a → Mut (H a)
  | .lst _, _, _, ⟨_, e, _⟩ => by rw [e]; trivial
  | .dic _ _, _, _, ⟨_, e, _⟩ => by rw [e]; trivial
  | .ins _ _ _, _, _, ⟨_, _, e, _⟩ => by rw [e]; trivial
  | .dead, _, n, _ => absurd rfl n

/-- the store: its cells stand at the addresses μ, each by itself -/
structure Sto (T : List (Addr × Str)) (K : PySem.W.Frag) (μ : List Addr) (H : Hp) (m : List C) : Prop where
  len : μ.length = m.length
  nd : μ.Nodup
  rep : ∀ (n : Nat) (c : C) (a : Addr), m[n]? = some c → μ[n]? = some a → CRep K μ H c a
  tab : LamX.Tabs T H
theorem celled_mut {o : Option HO} (h : Celled o) : Mut o := by
  cases o with
  | none => exact h
  | some u => cases u <;> first | trivial | exact h
theorem CRep.celled {K : PySem.W.Frag} {μ : List Addr} {H : Hp} : ∀ {c : C} {a : Addr}, c ≠ .dead → CRep K μ H c a → Celled (H a)
  | .lst _, _, _, ⟨_, e, _⟩ => by rw [e]; trivial
  | .dic _ _, _, _, ⟨_, e, _⟩ => by rw [e]; trivial
  | .ins _ _ _, _, _, ⟨_, _, e, _⟩ => by rw [e]; trivial
  | .dead, _, n, _ => absurd rfl n
theorem tabs_new {T : List (Addr × Str)} {H : Hp} {p : Addr} {o : HO} (t : LamX.Tabs T H) (h : H p = none) : LamX.Tabs T (upd H p o) := t.ext fun b u e => by rw [upd_ne (ne_of_none e h)]; exact e
theorem tabs_set {T : List (Addr × Str)} {H : Hp} {p : Addr} {o : HO} (t : LamX.Tabs T H) (h : Celled (H p)) : LamX.Tabs T (upd H p o) := fun x hx => by
  obtain ⟨ps, h1, h2, h3⟩ := t x hx
  refine ⟨ps, ?_, h2, fun pos cv hc => ?_⟩
  · rw [upd_ne (fun z => by rw [← z, h1] at h; exact h)]
    exact h1
  · obtain ⟨c, e1, e2⟩ := h3 pos cv hc
    refine ⟨c, e1, ?_⟩
    rw [upd_ne (fun z => by
      rw [← z, e2] at h
      unfold LamX.CodeO at h
      exact h)]
    exact e2
theorem CRep.keep {K : PySem.W.Frag} {μ μ' : List Addr} {H H' : Hp} (hk : Kept H H') (hm : μ <+: μ') : ∀ {c : C} {a : Addr}, (∀ o, H a = some o → (∀ ps, o ≠ .tbl ps) → H' a = some o) → CRep K μ H c a → CRep K μ' H' c a
  | .lst _, _, s, ⟨xs, e, r⟩ => ⟨xs, s _ e (fun _ z => by cases z), r.keep hk hm⟩
  | .dic _ _, _, s, ⟨xs, e, n, r⟩ => ⟨xs, s _ e (fun _ z => by cases z), n, r.keep hk hm⟩
  | .ins _ _ _, _, s, ⟨dx, xs, e, n, r⟩ => ⟨dx, xs, s _ e (fun _ z => by cases z), n, r.keep hk hm⟩
  | .dead, _, s, ⟨_, e, n⟩ => ⟨_, s _ e n, n⟩
theorem Sto.mem {T : List (Addr × Str)} {K : PySem.W.Frag} {μ : List Addr} {H : Hp} {m : List C} (S : Sto T K μ H m) {a : Addr} (h : a ∈ μ) : ∃ o, H a = some o := by
  obtain ⟨n, hn, e⟩ := List.mem_iff_getElem.mp h
  have hm : n < m.length := by rw [← S.len]; exact hn
  exact (S.rep n m[n] a (List.getElem?_eq_getElem hm) (by rw [← e]; exact List.getElem?_eq_getElem hn)).there
/-- a new object that is no cell -/
theorem Sto.new {T : List (Addr × Str)} {K : PySem.W.Frag} {μ : List Addr} {H : Hp} {m : List C} {p : Addr} {o : HO} (S : Sto T K μ H m) (h : H p = none) : Sto T K μ (upd H p o) m :=
  ⟨S.len, S.nd, fun n c a e1 e2 => (S.rep n c a e1 e2).keep (.new h) (List.prefix_refl _) fun u e _ => by rw [upd_ne (ne_of_none e h)]; exact e, tabs_new S.tab h⟩
/-- a new cell -/
theorem Sto.cell {T : List (Addr × Str)} {K : PySem.W.Frag} {μ : List Addr} {H : Hp} {m : List C} {p : Addr} {o : HO} {c : C} (S : Sto T K μ H m) (h : H p = none) (hc : CRep K (μ ++ [p]) (upd H p o) c p) : Sto T K (μ ++ [p]) (upd H p o) (m ++ [c]) := by
  have np : p ∉ μ := fun z => by
    obtain ⟨u, e⟩ := S.mem z
    rw [h] at e
    cases e
  refine ⟨by simp [S.len], ?_, fun n d a e1 e2 => ?_, tabs_new S.tab h⟩
  · rw [List.nodup_append]
    exact ⟨S.nd, List.nodup_cons.mpr ⟨(fun z => nomatch z), List.nodup_nil⟩, fun x hx y hy z => np (by rw [← List.mem_singleton.mp hy, ← z]; exact hx)⟩
  · by_cases hn : n < m.length
    · rw [List.getElem?_append_left hn] at e1
      rw [List.getElem?_append_left (by rw [S.len]; exact hn)] at e2
      exact (S.rep n d a e1 e2).keep (.new h) (List.prefix_append _ _) fun u e _ => by rw [upd_ne (ne_of_none e h)]; exact e
    · rw [List.getElem?_append_right (Nat.le_of_not_lt hn)] at e1
      rw [List.getElem?_append_right (by rw [S.len]; exact Nat.le_of_not_lt hn)] at e2
      have h0 : n - m.length = 0 := by
        cases q : n - m.length with
        | zero => rfl
        | succ k => rw [q] at e1; simp at e1
      rw [h0] at e1
      rw [S.len, h0] at e2
      simp at e1 e2
      subst e1 e2
      exact hc
/-- a cell is changed -/
theorem Sto.set {T : List (Addr × Str)} {K : PySem.W.Frag} {μ : List Addr} {H : Hp} {m : List C} {n : Nat} {p : Addr} {o : HO} {c : C} (S : Sto T K μ H m) (hp : μ[n]? = some p) (h : Celled (H p)) (hc : CRep K μ (upd H p o) c p) : Sto T K μ (upd H p o) (m.set n c) := by
  refine ⟨by simp [S.len], S.nd, fun k d a e1 e2 => ?_, tabs_set S.tab h⟩
  by_cases hk : k = n
  · subst hk
    rw [e2] at hp
    cases hp
    have hl : k < m.length := by
      have := (List.getElem?_eq_some_iff.mp e1).1
      simpa using this
    rw [List.getElem?_set_self hl] at e1
    cases e1
    exact hc
  · rw [List.getElem?_set_ne (Ne.symm hk)] at e1
    have ne : a ≠ p := fun z => by
      subst z
      exact hk (nodup_ix' S.nd e2 hp)
    exact (S.rep k d a e1 e2).keep (.mut h) (List.prefix_refl _) fun u e _ => by rw [upd_ne ne]; exact e
where
  nodup_ix' {N : List Addr} (hN : N.Nodup) {i j : Nat} {x : Addr} (a : N[i]? = some x) (b : N[j]? = some x) : i = j := by
    obtain ⟨h1, e1⟩ := List.getElem?_eq_some_iff.mp a
    obtain ⟨h2, e2⟩ := List.getElem?_eq_some_iff.mp b
    exact (List.getElem_inj hN).mp (e1.trans e2.symm)

abbrev Env := List (Option D)
structure ERep (K : PySem.W.Frag) (μ : List Addr) (H : Hp) (ρ : Env) (σ : St) : Prop where
  len : ρ.length = σ.length
  get : ∀ (i : Nat) (d : D), ρ[i]? = some (some d) → ∃ v, σ[i]? = some (some v) ∧ Rep K μ H d v
theorem ERep.keep {K : PySem.W.Frag} {μ μ' : List Addr} {H H' : Hp} {ρ : Env} {σ : St} (hk : Kept H H') (hm : μ <+: μ') (h : ERep K μ H ρ σ) : ERep K μ' H' ρ σ :=
  ⟨h.len, fun i d e => let ⟨v, e1, r⟩ := h.get i d e; ⟨v, e1, r.keep hk hm⟩⟩
theorem ERep.ext {K : PySem.W.Frag} {μ μ' : List Addr} {H H' : Hp} {ρ : Env} {σ : St} (x : Ext μ H μ' H') (h : ERep K μ H ρ σ) : ERep K μ' H' ρ σ := h.keep x.kept x.pre
theorem ERep.set {K : PySem.W.Frag} {μ : List Addr} {H : Hp} {ρ : Env} {σ : St} {i : Nat} {d : D} {v : V} (h : ERep K μ H ρ σ) (r : Rep K μ H d v) : ERep K μ H (ρ.set i (some d)) (σ.set i (some v)) := by
  refine ⟨by simp [h.len], fun j e q => ?_⟩
  by_cases hj : j = i
  · subst hj
    have hl : j < ρ.length := by
      have := (List.getElem?_eq_some_iff.mp q).1
      simpa using this
    rw [List.getElem?_set_self hl] at q
    cases q
    exact ⟨v, by rw [List.getElem?_set_self (by rw [← h.len]; exact hl)], r⟩
  · rw [List.getElem?_set_ne (Ne.symm hj)] at q
    obtain ⟨w, e1, r1⟩ := h.get j e q
    exact ⟨w, by rw [List.getElem?_set_ne (Ne.symm hj)]; exact e1, r1⟩
theorem ERep.unset {K : PySem.W.Frag} {μ : List Addr} {H : Hp} {ρ : Env} {σ : St} {i : Nat} (h : ERep K μ H ρ σ) : ERep K μ H (ρ.set i none) (σ.set i none) := by
  refine ⟨by simp [h.len], fun j e q => ?_⟩
  by_cases hj : j = i
  · subst hj
    have hl : j < ρ.length := by
      have := (List.getElem?_eq_some_iff.mp q).1
      simpa using this
    rw [List.getElem?_set_self hl] at q
    cases q
  · rw [List.getElem?_set_ne (Ne.symm hj)] at q
    obtain ⟨w, e1, r1⟩ := h.get j e q
    exact ⟨w, by rw [List.getElem?_set_ne (Ne.symm hj)]; exact e1, r1⟩

/-- what an expression comes to: a value, an error of an own class with its fields, or nothing that is told -/
inductive R (α : Type) where
  | ok (a : α) (m : List C) | exc (c : Addr) (ns : List Str) (vs : List D) (m : List C) | no
  deriving Inhabited
def R.bind {α β : Type} (r : R α) (k : α → List C → R β) : R β :=
  match r with
  | .ok a m => k a m
  | .exc c ns vs m => .exc c ns vs m
  | .no => .no
@[simp] theorem R.bind_ok {α β : Type} (a : α) (m : List C) (k : α → List C → R β) : (R.ok a m).bind k = k a m := rfl
@[simp] theorem R.bind_exc {α β : Type} (c : Addr) (ns : List Str) (vs : List D) (m : List C) (k : α → List C → R β) : (R.exc c ns vs m : R α).bind k = .exc c ns vs m := rfl
@[simp] theorem R.bind_no {α β : Type} (k : α → List C → R β) : (R.no : R α).bind k = .no := rfl
abbrev ES := Env → List C → R D
abbrev LS := Env → List C → R (List D)
abbrev BS := Env → List C → R Bool
/-- what a statement comes to -/
inductive RS where
  | nx (ρ : Env) (m : List C) | rt (d : D) (m : List C) | bk (ρ : Env) (m : List C) | ct (ρ : Env) (m : List C)
  | ex (c : Addr) (ns : List Str) (vs : List D) (ρ : Env) (m : List C) | no
  deriving Inhabited
abbrev SS := Env → List C → RS

/-- an error's own fields -/
def XRep (K : PySem.W.Frag) (μ : List Addr) (H : Hp) (ns : List Str) (vs : List D) (od : Option Addr) : Prop :=
  (ns = [] ∧ vs = [] ∧ od = none) ∨ ns ≠ [] ∧ ∃ d xs, od = some d ∧ H d = some (.xd (ns.zip xs)) ∧ ns.length = vs.length ∧ RepL K μ H vs xs

section
variable {α β γ δ : Type}
/-- what is asked of a result -/
def Post (rp : List Addr → Hp → α → β → Prop) (T : List (Addr × Str)) (K : PySem.W.Frag) (W : WX) (σ : St) (μ : List Addr) (H : Hp) (r : R α) (Q : β → Hp → Prop) : Prop :=
  match r with
  | .ok a m' => ∀ μ' H' v, Ext μ H μ' H' → Sto T K μ' H' m' → rp μ' H' a v → Q v H'
  | .exc c ns vs m' => ∀ μ' H' od, Ext μ H μ' H' → Sto T K μ' H' m' → XRep K μ' H' ns vs od → W (.ref c) od σ H'
  | .no => False
variable {rp : List Addr → Hp → α → β → Prop} {rq : List Addr → Hp → γ → δ → Prop} {T : List (Addr × Str)} {K : PySem.W.Frag} {W : WX} {σ : St} {μ : List Addr} {H : Hp}
theorem Post.ext {μ' : List Addr} {H' : Hp} {r : R α} {Q : β → Hp → Prop} (x : Ext μ H μ' H') (h : Post rp T K W σ μ H r Q) : Post rp T K W σ μ' H' r Q := by
  cases r with
  | ok a m => exact fun μ2 H2 v y s q => h μ2 H2 v (x.trans y) s q
  | exc c ns vs m => exact fun μ2 H2 od y s q => h μ2 H2 od (x.trans y) s q
  | no => exact h
/-- from the whole to its first part -/
theorem Post.bind {r : R α} {k : α → List C → R γ} {Q : δ → Hp → Prop} {Q' : β → Hp → Prop} (h : Post rq T K W σ μ H (r.bind k) Q)
    (hq : ∀ a m' μ' H' v, Ext μ H μ' H' → Sto T K μ' H' m' → rp μ' H' a v → Post rq T K W σ μ' H' (k a m') Q → Q' v H') : Post rp T K W σ μ H r Q' := by
  cases r with
  | ok a m => exact fun μ2 H2 v y s q => hq a m μ2 H2 v y s q (Post.ext y h)
  | exc c ns vs m => exact h
  | no => exact h
/-- a reading by a function -/
def tG (rp : List Addr → Hp → α → β → Prop) (T : List (Addr × Str)) (K : PySem.W.Frag) (W : WX) (F : Env → List C → R α) : St → Hp → (β → Hp → Prop) → Prop :=
  fun σ H Q => ∃ μ ρ m, ERep K μ H ρ σ ∧ Sto T K μ H m ∧ Post rp T K W σ μ H (F ρ m) Q
end
def bRep : List Addr → Hp → Bool → Bool → Prop := fun _ _ a b => b = a
section
variable (X : Cx) (T : List (Addr × Str)) (W : WX)
/-- an expression's value is F -/
structure DE (e : Expr) (F : ES) : Prop where
  run : PE X e (tG (Rep X.K) T X.K W F)
structure DT (e : Expr) (F : BS) : Prop where
  run : PT X e (tG bRep T X.K W F)
structure DA (es : List Expr) (F : LS) : Prop where
  run : PA X es (tG (RepL X.K) T X.K W F)
end
theorem _root_.L2.PE.weak {X : Cx} {e : Expr} {t t' : TE} (h : PE X e t) (k : ∀ σ H Q, t' σ H Q → t σ H Q) : PE X e t' := ⟨fun pins s σ H Q I q => h.run pins s σ H Q I (k σ H Q q)⟩
theorem _root_.L2.PT.weak {X : Cx} {e : Expr} {t t' : TT} (h : PT X e t) (k : ∀ σ H Q, t' σ H Q → t σ H Q) : PT X e t' := ⟨fun pins s σ H Q I q => h.run pins s σ H Q I (k σ H Q q)⟩
theorem _root_.L2.PA.weak {X : Cx} {e : List Expr} {t t' : TA} (h : PA X e t) (k : ∀ σ H Q, t' σ H Q → t σ H Q) : PA X e t' := ⟨fun pos pins s σ H Q I q => h.run pos pins s σ H Q I (k σ H Q q)⟩
theorem _root_.L2.PS.weak {X : Cx} {e : Stmt} {t t' : TS} (h : PS X e t) (k : ∀ D σ H, t' D σ H → t D σ H) : PS X e t' := ⟨fun pins s σ H D I q => h.run pins s σ H D I (k D σ H q)⟩
theorem _root_.L2.PSs.weak {X : Cx} {e : List Stmt} {t t' : TS} (h : PSs X e t) (k : ∀ D σ H, t' D σ H → t D σ H) : PSs X e t' := ⟨fun pins s σ H D I q => h.run pins s σ H D I (k D σ H q)⟩
/-- the state at a reading's second part -/
theorem tG_mk {α β : Type} {rp : List Addr → Hp → α → β → Prop} {T : List (Addr × Str)} {K : PySem.W.Frag} {W : WX} {F : Env → List C → R α} {σ : St} {μ : List Addr} {H : Hp} {ρ : Env} {m : List C} {Q : β → Hp → Prop}
    (e : ERep K μ H ρ σ) (s : Sto T K μ H m) (h : Post rp T K W σ μ H (F ρ m) Q) : tG rp T K W F σ H Q := ⟨μ, ρ, m, e, s, h⟩
end DL


/-! DLb: expressions, tests, statements, defs of the tree layer. -/
namespace DL
open PySem PySem.Spec L2
open PyProof.Rows hiding St

/-! ### freezing, afterwards -/
def FQ (Q : VK) : VK := fun v H' => Q v H' ∨ ∃ a u, v = .ref a ∧ H' a = some u ∧ Mut (some u) ∧ ∀ od, Q v (upd H' a (.frz od u))
theorem ep_frz {X : Cx} {pins : List (Addr × Obj)} {σ : St} {Q : VK} {u : Value} {s : Shared} (h : EP X pins σ (FQ Q) u s) : EP X pins σ Q u s := by
  obtain ⟨v, H', I, r, q⟩ := h
  rcases q with q | ⟨a, u, rfl, e, mu, q⟩
  · exact ⟨v, H', I, r, q⟩
  · obtain ⟨od, I'⟩ := I.lock e mu
    exact ⟨_, _, I', r, q od⟩
theorem pe_frz {X : Cx} {e : Expr} {t : TE} (h : PE X e t) : PE X e (fun σ H Q => t σ H (FQ Q)) := ⟨fun pins s σ H Q I q => thn (h.run pins s σ H _ I q) fun _ _ z => ep_frz z⟩
theorem _root_.L2.OpR.frz {X : Cx} {f : Value → Value → Sem Value} {r : R2} (h : OpR X f r) : OpR X f (fun x y H Q => r x y H (FQ Q)) := fun pins s σ H x y v u Q I rx ry q => thn (h pins s σ H x y v u _ I rx ry q) fun _ _ z => ep_frz z
theorem _root_.L2.CallR.frz {X : Cx} {f : Value} {r : List V → Hp → VK → Prop} (h : CallR X f r) : CallR X f (fun xs H Q => r xs H (FQ Q)) := fun pins s σ H x v Q I rx q => thn (h pins s σ H x v _ I rx q) fun _ _ z => ep_frz z
theorem _root_.L2.MtR.frz {X : Cx} {id : String} {r : V → List V → Hp → VK → Prop} (h : MtR X id r) : MtR X id (fun x xs H Q => r x xs H (FQ Q)) := fun pins s σ H x xs v us Q I rx rs q => thn (h pins s σ H x xs v us _ I rx rs q) fun _ _ z => ep_frz z
theorem _root_.L2.SlR.frz {X : Cx} {r : V → Option Int → Option Int → Hp → VK → Prop} (h : SlR X r) : SlR X (fun x lo hi H Q => r x lo hi H (FQ Q)) := fun pins s σ H x v vl vu lo hi sl Q I rx hs pl pu q => by
  obtain ⟨T, id, h1, h2, h3⟩ := h pins s σ H x v vl vu lo hi sl _ I rx hs pl pu q
  exact ⟨T, id, h1, h2, thn h3 fun _ _ z => ep_frz z⟩

/-! ### reading the store -/
def lstOf (m : List C) : D → Option (List D)
  | .lst l => some l
  | .cell n => match m[n]? with
    | some (.lst l) => some l
    | _ => none
  | _ => none
def seqOf (m : List C) : D → Option (List D)
  | .tup l => some l
  | d => lstOf m d
section
variable {T : List (Addr × Str)} {K : PySem.W.Frag} {μ : List Addr} {H : Hp} {m : List C} {W : WX} {σ : St}
theorem RepL.length : ∀ {l : List D} {xs : List V}, RepL K μ H l xs → l.length = xs.length
  | [], _, h => by cases h; rfl
  | d :: l, _, h => by
    obtain ⟨x, xs, rfl, _, r⟩ := h
    exact congrArg (· + 1) (RepL.length r)
theorem RepL.get : ∀ {l : List D} {xs : List V} {i : Nat} {d : D}, RepL K μ H l xs → l[i]? = some d → ∃ v, xs[i]? = some v ∧ Rep K μ H d v
  | [], _, _, _, _, e => by simp at e
  | d :: l, _, 0, _, h, e => by
    obtain ⟨x, xs, rfl, r, _⟩ := h
    simp at e
    subst e
    exact ⟨x, rfl, r⟩
  | d :: l, _, i + 1, _, h, e => by
    obtain ⟨x, xs, rfl, _, r⟩ := h
    simp at e
    obtain ⟨v, e1, r1⟩ := RepL.get r e
    exact ⟨v, by simpa using e1, r1⟩
theorem RepL.get' {l : List D} {xs : List V} {i : Nat} {v : V} (h : RepL K μ H l xs) (e : xs[i]? = some v) : ∃ d, l[i]? = some d ∧ Rep K μ H d v := by
  have hi : i < l.length := by rw [h.length]; exact (List.getElem?_eq_some_iff.mp e).1
  obtain ⟨w, e1, r⟩ := h.get (List.getElem?_eq_getElem hi)
  rw [e] at e1
  cases e1
  exact ⟨_, List.getElem?_eq_getElem hi, r⟩
theorem RepL.nil : RepL K μ H [] [] := rfl
theorem RepL.cons {d : D} {l : List D} {x : V} {xs : List V} (a : Rep K μ H d x) (b : RepL K μ H l xs) : RepL K μ H (d :: l) (x :: xs) := ⟨x, xs, rfl, a, b⟩
theorem RepL.append : ∀ {l k : List D} {xs ys : List V}, RepL K μ H l xs → RepL K μ H k ys → RepL K μ H (l ++ k) (xs ++ ys)
  | [], _, _, _, h, q => by cases h; exact q
  | d :: l, _, _, _, h, q => by
    obtain ⟨x, xs, rfl, r, t⟩ := h
    exact ⟨x, _, rfl, r, RepL.append t q⟩
theorem RepL.take : ∀ {l : List D} {xs : List V} (n : Nat), RepL K μ H l xs → RepL K μ H (l.take n) (xs.take n)
  | _, _, 0, _ => rfl
  | [], _, _ + 1, h => by cases h; rfl
  | d :: l, _, n + 1, h => by
    obtain ⟨x, xs, rfl, r, t⟩ := h
    exact ⟨x, _, rfl, r, RepL.take n t⟩
theorem RepL.drop : ∀ {l : List D} {xs : List V} (n : Nat), RepL K μ H l xs → RepL K μ H (l.drop n) (xs.drop n)
  | _, _, 0, h => h
  | [], _, _ + 1, h => by cases h; rfl
  | d :: l, _, n + 1, h => by
    obtain ⟨x, xs, rfl, r, t⟩ := h
    exact RepL.drop n t
theorem RepL.set : ∀ {l : List D} {xs : List V} (i : Nat) {d : D} {v : V}, RepL K μ H l xs → Rep K μ H d v → RepL K μ H (l.set i d) (xs.set i v)
  | [], _, _, _, _, h, _ => by cases h; rfl
  | d :: l, _, 0, _, _, h, q => by
    obtain ⟨x, xs, rfl, r, t⟩ := h
    exact ⟨_, _, rfl, q, t⟩
  | d :: l, _, n + 1, _, _, h, q => by
    obtain ⟨x, xs, rfl, r, t⟩ := h
    exact ⟨x, _, rfl, r, RepL.set n t q⟩
theorem RepL.ext {μ' : List Addr} {H' : Hp} {l : List D} {xs : List V} (x : Ext μ H μ' H') (h : RepL K μ H l xs) : RepL K μ' H' l xs := h.keep x.kept x.pre
theorem Rep.ext {μ' : List Addr} {H' : Hp} {d : D} {v : V} (x : Ext μ H μ' H') (h : Rep K μ H d v) : Rep K μ' H' d v := h.keep x.kept x.pre
theorem Sto.at (S : Sto T K μ H m) {n : Nat} {c : C} (e : m[n]? = some c) : ∃ a, μ[n]? = some a ∧ CRep K μ H c a := by
  have hn : n < μ.length := by rw [S.len]; exact (List.getElem?_eq_some_iff.mp e).1
  exact ⟨μ[n], List.getElem?_eq_getElem hn, S.rep n c _ e (List.getElem?_eq_getElem hn)⟩
theorem lstOf_rd (S : Sto T K μ H m) {d : D} {v : V} {l : List D} (r : Rep K μ H d v) (e : lstOf m d = some l) : ∃ a xs, v = .ref a ∧ Rd H a (.lst xs) ∧ RepL K μ H l xs := by
  cases d with
  | lst k =>
    cases e
    obtain ⟨a, xs, rfl, f, q⟩ := r
    exact ⟨a, xs, rfl, .inr f, q⟩
  | cell n =>
    obtain ⟨a, ea, rfl⟩ := r
    unfold lstOf at e
    cases hm : m[n]? with
    | none => simp [hm] at e
    | some c =>
      cases c with
      | lst k =>
        simp only [hm, Option.some.injEq] at e
        subst e
        obtain ⟨xs, ex, q⟩ := S.rep n _ a hm ea
        exact ⟨a, xs, rfl, .inl ex, q⟩
      | _ => simp [hm] at e
  | _ => cases e
theorem lstOf_rep (S : Sto T K μ H m) {d : D} {v : V} {l : List D} (r : Rep K μ H d v) (e : lstOf m d = some l) : ∃ a xs, v = .ref a ∧ SqL K H a xs ∧ RepL K μ H l xs := by
  cases d with
  | lst k =>
    cases e
    obtain ⟨a, xs, rfl, f, q⟩ := r
    exact ⟨a, xs, rfl, f.sql, q⟩
  | cell n =>
    obtain ⟨a, ea, rfl⟩ := r
    unfold lstOf at e
    cases hm : m[n]? with
    | none => simp [hm] at e
    | some c =>
      cases c with
      | lst k =>
        simp only [hm, Option.some.injEq] at e
        subst e
        obtain ⟨xs, ex, q⟩ := S.rep n _ a hm ea
        exact ⟨a, xs, rfl, SqL.of ex, q⟩
      | _ => simp [hm] at e
  | _ => cases e
theorem seqOf_rep (S : Sto T K μ H m) {d : D} {v : V} {l : List D} (r : Rep K μ H d v) (e : seqOf m d = some l) : ∃ a xs, v = .ref a ∧ (SqL K H a xs ∨ SqT K H a xs) ∧ RepL K μ H l xs := by
  cases d with
  | tup k =>
    cases e
    obtain ⟨a, xs, rfl, f, q⟩ := r
    exact ⟨a, xs, rfl, .inr f.sqt, q⟩
  | _ =>
    obtain ⟨a, xs, e1, s, q⟩ := lstOf_rep S r e
    exact ⟨a, xs, e1, .inl s, q⟩

/-! ### new objects -/
theorem post_newL {l : List D} {xs : List V} {Q : VK} (S : Sto T K μ H m) (r : RepL K μ H l xs) (h : Post (Rep K) T K W σ μ H (.ok (.lst l) m) Q) : ∀ p, H p = none → FQ Q (.ref p) (upd H p (.lst xs)) := fun p hp =>
  .inr ⟨p, .lst xs, rfl, upd_same, trivial, fun od => by
    rw [upd_upd]
    have x : Ext μ H μ (upd H p (.frz od (.lst xs))) := .new hp
    exact h μ _ _ x (S.new hp) ⟨p, xs, rfl, ⟨od, upd_same⟩, r.ext x⟩⟩
theorem post_newT {l : List D} {xs : List V} {Q : VK} (S : Sto T K μ H m) (r : RepL K μ H l xs) (h : Post (Rep K) T K W σ μ H (.ok (.tup l) m) Q) : ∀ p o, o.dict = none → H p = none → Q (.ref p) (upd H p (.frz o (.tup xs))) := fun p o ho hp => by
  have x : Ext μ H μ (upd H p (.frz o (.tup xs))) := .new hp
  exact h μ _ _ x (S.new hp) ⟨p, xs, rfl, .inl ⟨o, upd_same, ho⟩, r.ext x⟩
theorem post_newC {l : List D} {xs : List V} {Q : VK} (S : Sto T K μ H m) (r : RepL K μ H l xs) (h : Post (Rep K) T K W σ μ H (.ok (.cell m.length) (m ++ [.lst l])) Q) : ∀ p, H p = none → Q (.ref p) (upd H p (.lst xs)) := fun p hp => by
  have x : Ext μ H (μ ++ [p]) (upd H p (.lst xs)) := .cell hp
  exact h _ _ _ x (S.cell hp ⟨xs, upd_same, r.ext x⟩) ⟨p, by rw [← S.len]; simp, rfl⟩
/-- the value at hand -/
theorem post_here {α β : Type} {rp : List Addr → Hp → α → β → Prop} {a : α} {v : β} {Q : β → Hp → Prop} (S : Sto T K μ H m) (r : rp μ H a v) (h : Post rp T K W σ μ H (.ok a m) Q) : Q v H := h μ H v (.refl μ H) S r
end

/-! ### tuples whose object is known -/
theorem _root_.L2.Inv.laidT {X : Cx} {pins : List (Addr × Obj)} {σ : L2.St} {H : Hp} {s : Shared} {xs : List V} {its : List Value} {tk : Nat} (I : Inv X pins σ H s) (hz : xs.length ≤ sizeLine) (r : Vals xs its) :
    Inv X pins σ (upd H s.heap.objs.size (.frz { cls := .type "tuple", data := .seq its.toArray } (.tup xs))) { s with heap := s.heap.push { cls := .type "tuple", data := .seq its.toArray }, toks := tk } :=
  I.laid (t' := tk) (fun b u e => Heap.get?_push_of_some _ e) (Nat.le_refl _) ⟨Heap.get?_push_size _ rfl, hz, its, r, ⟨_, Heap.get?_push_size _ rfl, rfl, _, rfl⟩⟩
def tTupF (t : TA) : TE := fun σ H Q => t σ H fun xs H1 => xs.length ≤ sizeLine ∧ ∀ p o, o.dict = none → H1 p = none → Q (.ref p) (upd H1 p (.frz o (.tup xs)))
theorem pe_tupF {X : Cx} {es : List Expr} {t : TA} {pos : Pos} {x1} (h : PA X es t) : PE X (.Tuple es x1 pos) (tTupF t) := by
  refine ⟨fun pins s σ H Q I hq => ?_⟩
  refine wpAny_Tuple_spliced (thn (h.run pos pins s σ H _ I hq) fun us s1 ⟨xs, H1, I1, r, z, q⟩ => ⟨by rw [← r.length]; exact z, ?_⟩)
  exact ⟨.ref s1.heap.objs.size, _, I1.laidT (tk := s1.toks) z r, rfl, q _ _ rfl (I1.hok.fresh (Nat.le_refl _))⟩

/-! ### names, constants, displays -/
def eVar (i : Nat) : ES := fun ρ m => match ρ[i]? with
  | some (some d) => .ok d m
  | _ => .no
def eC (d : D) : ES := fun _ m => .ok d m
def aNil : LS := fun _ m => .ok [] m
def aCons (F : ES) (G : LS) : LS := fun ρ m => (F ρ m).bind fun d m1 => (G ρ m1).bind fun l m2 => .ok (d :: l) m2
/-- a size that fits -/
def fits (n : Nat) : Bool := decide (n ≤ 16777216)
theorem fits_iff {n : Nat} : fits n = true ↔ n ≤ sizeLine := by unfold fits; rw [sizeLine_eq]; simp
def eTup (F : LS) : ES := fun ρ m => (F ρ m).bind fun l m1 => if fits l.length then .ok (.tup l) m1 else .no
/-- a list that is not written later -/
def eLst (F : LS) : ES := fun ρ m => (F ρ m).bind fun l m1 => if fits l.length then .ok (.lst l) m1 else .no
/-- a list that is a cell -/
def eLstC (F : LS) : ES := fun ρ m => (F ρ m).bind fun l m1 => if fits l.length then .ok (.cell m1.length) (m1 ++ [.lst l]) else .no
section
variable {X : Cx} {T : List (Addr × Str)} {W : WX} {a b e : Expr} {es : List Expr} {Fa Fb F : ES} {G : LS} {pos : Pos}
theorem de_var {i : Nat} {x : Str} (h : PE X (.Name x pos) (tVar i)) : DE X T W (.Name x pos) (eVar i) := ⟨h.weak fun σ H Q ⟨μ, ρ, m, e, s, q⟩ => by
  unfold eVar at q
  split at q
  · rename_i d hd
    obtain ⟨v, e1, r⟩ := e.get i d hd
    exact ⟨v, e1, post_here s r q⟩
  · exact q.elim⟩
theorem de_c {d : D} {v : V} (h : PE X e (tC v)) (hr : ∀ μ H, Rep X.K μ H d v) : DE X T W e (eC d) := ⟨h.weak fun σ H Q ⟨μ, ρ, m, e, s, q⟩ => post_here s (hr μ H) q⟩
theorem de_int {i : Int} {j} : DE X T W (.Constant (.int i) j pos) (eC (.int i)) := de_c pe_int fun _ _ => rfl
theorem de_bl {i : Bool} {j} : DE X T W (.Constant (.bool i) j pos) (eC (.bl i)) := de_c pe_bl fun _ _ => rfl
theorem de_non {j} : DE X T W (.Constant .none j pos) (eC .non) := de_c pe_non fun _ _ => rfl
theorem de_str {x : Str} {j} : DE X T W (.Constant (.str x) j pos) (eC (.str x)) := de_c pe_str fun _ _ => rfl
theorem da_nil : DA X T W [] aNil := ⟨pa_nil.weak fun σ H Q ⟨μ, ρ, m, e, s, q⟩ => post_here (a := []) s rfl q⟩
theorem da_cons (ha : DE X T W a Fa) (hb : DA X T W es G) (hs : starEach (a :: es) X.env = (false, eval a X.env) :: starEach es X.env := by rfl) : DA X T W (a :: es) (aCons Fa G) :=
  ⟨(pa_cons ha.run hb.run hs).weak fun σ H Q ⟨μ, ρ, m, e, s, q⟩ => tG_mk e s (q.bind fun d m1 μ1 H1 x x1 s1 r1 q1 => tG_mk (e.ext x1) s1 (q1.bind fun l m2 μ2 H2 xs x2 s2 r2 q2 => post_here s2 (rp := RepL X.K) (a := d :: l) (RepL.cons (r1.ext x2) r2) q2))⟩
theorem de_tup {x1} (h : DA X T W es G) : DE X T W (.Tuple es x1 pos) (eTup G) := ⟨(pe_tupF h.run).weak fun σ H Q ⟨μ, ρ, m, e, s, q⟩ => tG_mk e s (q.bind fun l m1 μ1 H1 xs x1 s1 r1 q1 => by
  split at q1
  · rename_i hf
    refine ⟨by rw [← r1.length]; exact fits_iff.mp hf, post_newT s1 r1 q1⟩
  · exact q1.elim)⟩
theorem de_lst (h : DA X T W es G) : DE X T W (.List es pos) (eLst G) := ⟨(pe_frz (pe_lst h.run)).weak fun σ H Q ⟨μ, ρ, m, e, s, q⟩ => tG_mk e s (q.bind fun l m1 μ1 H1 xs x1 s1 r1 q1 => by
  split at q1
  · rename_i hf
    refine ⟨by rw [← r1.length]; exact fits_iff.mp hf, post_newL s1 r1 q1⟩
  · exact q1.elim)⟩
theorem de_lstC (h : DA X T W es G) : DE X T W (.List es pos) (eLstC G) := ⟨(pe_lst h.run).weak fun σ H Q ⟨μ, ρ, m, e, s, q⟩ => tG_mk e s (q.bind fun l m1 μ1 H1 xs x1 s1 r1 q1 => by
  split at q1
  · rename_i hf
    refine ⟨by rw [← r1.length]; exact fits_iff.mp hf, post_newC s1 r1 q1⟩
  · exact q1.elim)⟩

/-! ### operations on values -/
def OpD (X : Cx) (T : List (Addr × Str)) (f : D → D → List C → R D) (r : R2) : Prop := ∀ (W : WX) (σ : St) (μ : List Addr) (H : Hp) (m : List C) (d1 d2 : D) (x y : V) (Q : VK),
  Sto T X.K μ H m → Rep X.K μ H d1 x → Rep X.K μ H d2 y → Post (Rep X.K) T X.K W σ μ H (f d1 d2 m) Q → r x y H Q
def UnD (X : Cx) (T : List (Addr × Str)) (f : D → List C → R D) (r : V → Hp → VK → Prop) : Prop := ∀ (W : WX) (σ : St) (μ : List Addr) (H : Hp) (m : List C) (d1 : D) (x : V) (Q : VK),
  Sto T X.K μ H m → Rep X.K μ H d1 x → Post (Rep X.K) T X.K W σ μ H (f d1 m) Q → r x H Q
def ArD (X : Cx) (T : List (Addr × Str)) (f : List D → List C → R D) (r : List V → Hp → VK → Prop) : Prop := ∀ (W : WX) (σ : St) (μ : List Addr) (H : Hp) (m : List C) (ds : List D) (xs : List V) (Q : VK),
  Sto T X.K μ H m → RepL X.K μ H ds xs → Post (Rep X.K) T X.K W σ μ H (f ds m) Q → r xs H Q
def eBin (f : D → D → List C → R D) (Fa Fb : ES) : ES := fun ρ m => (Fa ρ m).bind fun x m1 => (Fb ρ m1).bind fun y m2 => f x y m2
def eUn (f : D → List C → R D) (Fa : ES) : ES := fun ρ m => (Fa ρ m).bind fun x m1 => f x m1
def eAr (f : List D → List C → R D) (G : LS) : ES := fun ρ m => (G ρ m).bind fun l m1 => f l m1
variable {f : D → D → List C → R D} {r : R2}
theorem tOp_D (hf : OpD X T f r) (ha : DE X T W a Fa) (hb : DE X T W b Fb) : ∀ σ H Q, tG (Rep X.K) T X.K W (eBin f Fa Fb) σ H Q → tOp r (tG (Rep X.K) T X.K W Fa) (tG (Rep X.K) T X.K W Fb) σ H Q :=
  fun σ H Q ⟨μ, ρ, m, e, s, q⟩ => tG_mk e s (q.bind fun d1 m1 μ1 H1 x x1 s1 r1 q1 => tG_mk (e.ext x1) s1 (q1.bind fun d2 m2 μ2 H2 y x2 s2 r2 q2 => hf W σ μ2 H2 m2 d1 d2 x y Q s2 (r1.ext x2) r2 q2))
theorem de_bin {op : Operator} (ho : OpR X (binaryOp op) r) (hf : OpD X T f r) (ha : DE X T W a Fa) (hb : DE X T W b Fb) : DE X T W (.BinOp a op b pos) (eBin f Fa Fb) := ⟨(pe_op ho ha.run hb.run).weak (tOp_D hf ha hb)⟩
theorem de_cmp {op : CmpOp} (ho : OpR X (compareOp op) r) (hf : OpD X T f r) (ha : DE X T W a Fa) (hb : DE X T W b Fb) (hm : behindInMarks op b = false := by first | exact nomark _ | rfl) : DE X T W (.Compare a [op] [b] pos) (eBin f Fa Fb) := ⟨(pe_cmpR ho ha.run hb.run hm).weak (tOp_D hf ha hb)⟩
theorem de_ix (ho : IxR X r) (hf : OpD X T f r) (ha : DE X T W a Fa) (hb : DE X T W b Fb) (hs : PlainIx b := by exact fun _ _ => rfl) : DE X T W (.Subscript a b pos) (eBin f Fa Fb) := ⟨(pe_ix ho ha.run hb.run hs).weak (tOp_D hf ha hb)⟩
theorem de_un {op : UnaryOp} {f : D → List C → R D} {r : V → Hp → VK → Prop} (ho : UnR X (unaryOp op) r) (hf : UnD X T f r) (ha : DE X T W a Fa) : DE X T W (.UnaryOp op a pos) (eUn f Fa) :=
  ⟨(pe_un ho ha.run).weak fun σ H Q ⟨μ, ρ, m, e, s, q⟩ => tG_mk e s (q.bind fun d1 m1 μ1 H1 x x1 s1 r1 q1 => hf W σ μ1 H1 m1 d1 x Q s1 r1 q1)⟩
theorem tCB_D {f : List D → List C → R D} {r : List V → Hp → VK → Prop} (hf : ArD X T f r) (hG : DA X T W es G) : ∀ σ H Q, tG (Rep X.K) T X.K W (eAr f G) σ H Q → tCB r (tG (RepL X.K) T X.K W G) σ H Q :=
  fun σ H Q ⟨μ, ρ, m, e, s, q⟩ => tG_mk e s (q.bind fun l m1 μ1 H1 xs x1 s1 r1 q1 => hf W σ μ1 H1 m1 l xs Q s1 r1 q1)
/-- a built-in function, a built-in class called -/
theorem de_callB {id : String} {x : Str} {p : Pos} {f : List D → List C → R D} {r : List V → Hp → VK → Prop} (hc : CallR X (.builtin id) r) (hf : ArD X T f r) (hG : DA X T W (e :: es) G) (hm : X.mg x = none) (hv : bootBuiltins x = some (.builtin id) := by decide +kernel) (hg : Gl X x := by rfl) (hn : x ≠ "__name__" := by decide) (hdb : (x == ("__debug__" : Str)) = false := by decide)
    (he : starEach (e :: es) X.env = (false, eval e X.env) :: starEach es X.env := by rfl) (hpl : (backTo pos (starEach es X.env)).any (·.1) = false := by rfl) : DE X T W (.Call (.Name x p) (e :: es) [] pos) (eAr f G) := ⟨(pe_callB hc hg hm hv hG.run hn hdb he hpl).weak (tCB_D hf hG)⟩
theorem de_callTy {id : String} {x : Str} {p : Pos} {f : List D → List C → R D} {r : List V → Hp → VK → Prop} (hc : CallR X (.type id) r) (hf : ArD X T f r) (hG : DA X T W (e :: es) G) (hm : X.mg x = none) (hv : bootBuiltins x = some (.type id) := by decide +kernel) (hg : Gl X x := by rfl) (hn : x ≠ "__name__" := by decide) (hdb : (x == ("__debug__" : Str)) = false := by decide)
    (he : starEach (e :: es) X.env = (false, eval e X.env) :: starEach es X.env := by rfl) (hpl : (backTo pos (starEach es X.env)).any (·.1) = false := by rfl) : DE X T W (.Call (.Name x p) (e :: es) [] pos) (eAr f G) := ⟨(pe_callTy hc hg hm hv hG.run hn hdb he hpl).weak (tCB_D hf hG)⟩
end
end DL


/-! DG0: promises of defs that are called where no repr is under way (what repr tells hangs on it). -/
namespace DL
open PySem PySem.Spec L2
open PyProof.Rows hiding St
/-- room, and no repr under way -/
structure RmG (k : Nat) (A : Around) : Prop where
  r : Room k A
  g : A.guards = some []
section
variable {j k : Nat} {A : Around}
theorem RmG.mono (h : RmG k A) (hj : j ≤ k) : RmG j A := ⟨h.r.mono hj, h.g⟩
theorem RmG.deeper (h : RmG (k + 1) A) (env : PySem.Env) : RmG k (A.deeper env) := ⟨h.r.deeper env, h.g⟩
theorem RmG.units (h : RmG k A) : A.units + 64 < cLine := by have := h.r.un; omega
theorem RmG.units1 (h : RmG k A) : A.units + 65 < cLine := by have := h.r.un; omega
theorem RmG.u1 (h : RmG k A) : A.units + 1 < cLine := by have := h.r.un; omega
theorem hu_of (h : RmG k A) : A.units + 1 < cLine := h.u1
end
structure FnG (P : Program) (w : World) (K : PySem.W.Frag) (mg : Str → Option Value) (base : Heap) (CX : CXT) (k : Nat) (f : Addr) (fd : FuncData) (ps : List Str) (sp : Sp) : Prop where
  len : ∀ vs H Q E, sp vs H Q E → vs.length = ps.length
  run : ∀ (A : Around) (outer : List PySem.Env) (s : Shared) (H : Hp) (args : Args) (us : List Value) (vs : List V) (Q : VK) (E : XK), RmG k A → Env0 P w K mg base A outer s H → BindsTo s fd args (ps.zip us) → Vals vs us → sp vs H Q E →
    codeAny (model P w) A (.call (.ref f) args) (CR CX outer P w H s Q E) s
section
variable {P : Program} {w : World} {K : PySem.W.Frag} {mg : Str → Option Value} {base : Heap}
theorem FnG.mono {CX : CXT} {j k : Nat} {f : Addr} {fd : FuncData} {ps : List Str} {sp : Sp} (F : FnG P w K mg base CX j f fd ps sp) (h : j ≤ k) : FnG P w K mg base CX k f fd ps sp :=
  ⟨F.len, fun A outer s H args us vs Q E hr => F.run A outer s H args us vs Q E (hr.mono h)⟩
open LamX in
theorem okG {x qual : Str} {st : Stmt} {f : Addr} {fd : FuncData} {N ps : List Str} {k : Nat} {sp : Sp} (F : Fun K x qual st f fd) (S : FnScope N ps (defScope st)) (len : ∀ vs H Q E, sp vs H Q E → vs.length = ps.length)
    (hbody : ∀ (cdv : Value) (A : Around) (outer : List PySem.Env) (s : Shared) (H : Hp) (vs : List V) (Q : VK) (E : XK), RmG k (A.deeper (envOfC qual (defScope st) s.heap.objs.size f cdv)) → sp vs H Q E →
      ∃ t, PSs (cxOf (L2.CX P w) P w K mg base N qual (defScope st) f cdv A outer s H E) (defBody st) t ∧ t { nx := fun _ H' => Q .non H', rt := Q } (L2.start N vs) H) : FnG P w K mg base (L2.CX P w) (k + 1) f fd ps sp := by
  obtain ⟨oc, od, kV, doc, pm, an, cdv, ct, osl, rfl, lk, hcd⟩ := F.ex
  exact ⟨len, fun A outer s H args us vs Q E hr e0 hb r hsp => run_ofS lk hcd S hr.r e0 hb r (len _ _ _ _ hsp) fun hr' => hbody cdv A outer s H vs Q E ⟨hr', hr.g⟩ hsp⟩
end
section
variable {X : Cx} {CX : CXT} {k : Nat} {f : Addr} {fd : FuncData} {ps : List Str} {sp : Sp} {E : L2.St → XK}
theorem run_fnG {pins : List (Addr × Obj)} {σ : L2.St} {H : Hp} {s : Shared} {Q : VK} {us : List Value} {vs : List V} (F : FnG X.prog X.w X.K X.mg X.base CX k f fd ps sp) (hr : RmG k X.A) (hb : Binds X.K fd ps []) (hx : PassesAt CX X σ (E σ))
    (I : Inv X pins σ H s) (r : Vals vs us) (h : sp vs H Q (E σ)) : wpAny (model X.prog X.w) X.A (call (.ref f) us) (EP X pins σ Q) X.xe s := by
  have hl : (us ++ []).length = ps.length := by
    rw [List.append_nil, ← r.length]
    exact F.len _ _ _ _ h
  have b := hb s us I.kIn hl
  rw [List.append_nil] at b
  refine wpAny_call (codeAny_mono (F.run X.A X.stack s H ⟨us, []⟩ us vs Q (E σ) hr I.env0 b r h) fun res s' hq => ?_)
  match res with
  | .error e => exact hx pins H s e s' I hq
  | .ok (.ret u) => exact I.after hq
  | .ok .next => exact False.elim hq
  | .ok .brk => exact False.elim hq
  | .ok .cont => exact False.elim hq
variable {x : Str} {p pos : Pos} {e : Expr} {es : List Expr} {t : TA}
def tCallG (sp : Sp) (E : L2.St → XK) (t : TA) : TE := fun σ H Q => t σ H fun vs H1 => sp vs H1 Q (E σ)
theorem pe_callG (F : FnG X.prog X.w X.K X.mg X.base CX k f fd ps sp) (hr : RmG k X.A) (hg : Gl X x) (hm : X.mg x = some (.ref f)) (hk : PySem.W.keepIn X.K (.ref f) = true) (hb : Binds X.K fd ps []) (hx : ∀ σ, PassesAt CX X σ (E σ))
    (ha : PA X (e :: es) t) (hdb : (x == ("__debug__" : Str)) = false) (he : starEach (e :: es) X.env = (false, eval e X.env) :: starEach es X.env) (hpl : (backTo pos (starEach es X.env)).any (·.1) = false) :
    PE X (.Call (.Name x p) (e :: es) [] pos) (tCallG sp E t) := ⟨fun pins s σ H Q I h => by
  refine wpAny_Call_Name_kw (ld_glob I hg hm (PySem.W.callWith_K (h₀ := X.base) I.ok.mod.kin hk (thn (ha.run pos pins s σ H _ I h) fun us s1 hh => ?_) he hpl) hdb)
  obtain ⟨vs, H1, I1, r, q⟩ := hh
  exact ⟨I1.kIn, run_fnG F hr hb (hx σ) I1 r q⟩⟩
end
end DL


/-! DLc: tests, and | or | not, statements, defs of the tree layer. -/
namespace DL
open PySem PySem.Spec L2
open PyProof.Rows hiding St

/-! ### tests -/
def bTest (F : ES) : BS := fun ρ m => (F ρ m).bind fun d m1 => match d with
  | .bl b => .ok b m1
  | _ => .no
/-- a value's truth -/
def truD (m : List C) : D → Option Bool
  | .non => some false
  | .bl b => some b
  | .int i => some (i != 0)
  | .str x => if fits x.length then some ((x.length : Int) != 0) else none
  | .tup l => some (!l.isEmpty)
  | .lst l => some (!l.isEmpty)
  | .cell n => match m[n]? with
    | some (.lst l) => some (!l.isEmpty)
    | some (.dic ks _) => some (!ks.isEmpty)
    | _ => none
  | _ => none
def bTru (F : ES) : BS := fun ρ m => (F ρ m).bind fun d m1 => match truD m1 d with
  | some b => .ok b m1
  | none => .no
section
variable {T : List (Addr × Str)} {K : PySem.W.Frag} {μ : List Addr} {H : Hp} {m : List C}
theorem RepL.isEmpty {l : List D} {xs : List V} (r : RepL K μ H l xs) : l.isEmpty = xs.isEmpty := by
  cases l with
  | nil => cases r; rfl
  | cons d l =>
    obtain ⟨x, ys, rfl, _⟩ := r
    rfl
theorem truD_rep (S : Sto T K μ H m) {d : D} {v : V} {b : Bool} (r : Rep K μ H d v) (e : truD m d = some b) : TruV K v H b := by
  cases d with
  | non => cases r; cases e; rfl
  | bl _ => cases r; cases e; rfl
  | int _ => cases r; cases e; rfl
  | str x =>
    cases r
    change (if fits x.length then some ((x.length : Int) != 0) else none) = some b at e
    split at e
    · rename_i hf
      cases e
      exact ⟨fits_iff.mp hf, rfl⟩
    · cases e
  | tup l =>
    obtain ⟨a, xs, rfl, s, q⟩ := r
    cases e
    exact .inr (.inl ⟨xs, s.sqt, by rw [q.isEmpty]⟩)
  | lst l =>
    obtain ⟨a, xs, rfl, s, q⟩ := r
    cases e
    exact .inl ⟨xs, s.sql, by rw [q.isEmpty]⟩
  | cell n =>
    obtain ⟨a, ea, rfl⟩ := r
    unfold truD at e
    cases hm : m[n]? with
    | none => simp [hm] at e
    | some c =>
      cases c with
      | lst k =>
        simp only [hm, Option.some.injEq] at e
        subst e
        obtain ⟨xs, ex, q⟩ := S.rep n _ a hm ea
        exact .inl ⟨xs, SqL.of ex, by rw [q.isEmpty]⟩
      | dic ks vs =>
        simp only [hm, Option.some.injEq] at e
        subst e
        obtain ⟨xs, ex, hl, q⟩ := S.rep n _ a hm ea
        refine .inr (.inr ⟨_, ex, ?_⟩)
        have := q.length
        cases ks with
        | nil => simp
        | cons k ks =>
          cases xs with
          | nil => simp at this; simp [this] at hl
          | cons x xs => simp
      | _ => simp [hm] at e
  | _ => cases e
end
def bAnd (F G : BS) : BS := fun ρ m => (F ρ m).bind fun b m1 => if b then G ρ m1 else .ok false m1
def bOr (F G : BS) : BS := fun ρ m => (F ρ m).bind fun b m1 => if b then .ok true m1 else G ρ m1
def bNot (F : BS) : BS := fun ρ m => (F ρ m).bind fun b m1 => .ok (!b) m1
def eIf (F : BS) (G G' : ES) : ES := fun ρ m => (F ρ m).bind fun b m1 => if b then G ρ m1 else G' ρ m1
def eAnd (F G : ES) : ES := fun ρ m => (F ρ m).bind fun d m1 => match truD m1 d with
  | some true => G ρ m1
  | some false => .ok d m1
  | none => .no
def eOr (F G : ES) : ES := fun ρ m => (F ρ m).bind fun d m1 => match truD m1 d with
  | some true => .ok d m1
  | some false => G ρ m1
  | none => .no
def eNot (F : ES) : ES := fun ρ m => (F ρ m).bind fun d m1 => match truD m1 d with
  | some b => .ok (.bl (!b)) m1
  | none => .no
def eChain (f g : D → D → List C → R D) (Fa Fb Fc : ES) : ES := fun ρ m => (Fa ρ m).bind fun x m1 => (Fb ρ m1).bind fun y m2 => (f x y m2).bind fun d m3 => match d with
  | .bl true => (Fc ρ m3).bind fun z m4 => g y z m4
  | .bl false => .ok (.bl false) m3
  | _ => .no
section
variable {X : Cx} {T : List (Addr × Str)} {W : WX} {a b c e : Expr} {es rest : List Expr} {Fa Fb Fc F : ES} {A B : BS} {G : LS} {pos : Pos}
structure DW (X : Cx) (T : List (Addr × Str)) (W : WX) (e : Expr) (F : BS) : Prop where
  run : PW X e (tG bRep T X.K W F)
theorem DW.dt (h : DW X T W e A) : DT X T W e A := ⟨h.run.pt⟩
theorem tTest_D {t : TE} (h : ∀ σ H Q, tG (Rep X.K) T X.K W F σ H Q → t σ H Q) : ∀ σ H Q, tG bRep T X.K W (bTest F) σ H Q → tTest t σ H Q :=
  fun σ H Q ⟨μ, ρ, m, e, s, q⟩ => h σ H _ (tG_mk e s (q.bind fun d m1 μ1 H1 x x1 s1 r1 q1 => by
    cases d with
    | bl b =>
      cases r1
      exact ⟨b, rfl, post_here (rp := bRep) s1 rfl q1⟩
    | _ => exact q1.elim))
theorem dt_cmp {op : CmpOp} {f : D → D → List C → R D} {r : R2} (ho : OpR X (compareOp op) r) (hf : OpD X T f r) (ha : DE X T W a Fa) (hb : DE X T W b Fb) (hm : behindInMarks op b = false := by first | exact nomark _ | rfl) : DT X T W (.Compare a [op] [b] pos) (bTest (eBin f Fa Fb)) :=
  ⟨(pt_cmpR ho ha.run hb.run hm).weak (tTest_D (tOp_D hf ha hb))⟩
theorem dt_tru (ha : DE X T W a Fa) (he : ∀ whole, isTrue a X.env whole = (do let v ← whole; standAt a.pos; holding [v] (truthy v)) := by intro _; rfl) : DT X T W a (bTru Fa) :=
  ⟨(pt_truth ha.run he).weak fun σ H Q ⟨μ, ρ, m, e, s, q⟩ => tG_mk e s (q.bind fun d m1 μ1 H1 x x1 s1 r1 q1 => by
    split at q1
    · rename_i b hb
      exact ⟨b, truD_rep s1 r1 hb, post_here (rp := bRep) s1 rfl q1⟩
    · exact q1.elim)⟩
theorem tChain_D {f g : D → D → List C → R D} {r r' : R2} (hf : OpD X T f r) (hg : OpD X T g r') (ha : DE X T W a Fa) (hb : DE X T W b Fb) (hc : DE X T W c Fc) :
    ∀ σ H Q, tG (Rep X.K) T X.K W (eChain f g Fa Fb Fc) σ H Q → tChain r r' (tG (Rep X.K) T X.K W Fa) (tG (Rep X.K) T X.K W Fb) (tG (Rep X.K) T X.K W Fc) σ H Q :=
  fun σ H Q ⟨μ, ρ, m, e, s, q⟩ => tG_mk e s (q.bind fun d1 m1 μ1 H1 x x1 s1 r1 q1 => tG_mk (e.ext x1) s1 (q1.bind fun d2 m2 μ2 H2 y x2 s2 r2 q2 => hf W σ μ2 H2 m2 d1 d2 x y _ s2 (r1.ext x2) r2 (q2.bind fun d3 m3 μ3 H3 z x3 s3 r3 q3 => by
    cases d3 with
    | bl k =>
      cases r3
      refine ⟨k, rfl, ?_⟩
      cases k with
      | false => exact iteF (post_here (a := D.bl false) s3 rfl q3)
      | true => exact iteT (tG_mk (((e.ext x1).ext x2).ext x3) s3 (q3.bind fun d4 m4 μ4 H4 z x4 s4 r4 q4 => hg W σ μ4 H4 m4 d2 d4 y z Q s4 ((r2.ext x3).ext x4) r4 q4))
    | _ => exact q3.elim)))
theorem de_chain {op op' : CmpOp} {f g : D → D → List C → R D} {r r' : R2} (ho : OpR X (compareOp op) r) (ho' : OpR X (compareOp op') r') (hf : OpD X T f r) (hg : OpD X T g r') (ha : DE X T W a Fa) (hb : DE X T W b Fb) (hc : DE X T W c Fc)
    (hm : lastMarks [op, op'] [b, c] = false := by with_unfolding_all rfl) : DE X T W (.Compare a [op, op'] [b, c] pos) (eChain f g Fa Fb Fc) := ⟨(pe_chain ho ho' ha.run hb.run hc.run hm).weak (tChain_D hf hg ha hb hc)⟩
theorem dt_chain {op op' : CmpOp} {f g : D → D → List C → R D} {r r' : R2} (ho : OpR X (compareOp op) r) (ho' : OpR X (compareOp op') r') (hf : OpD X T f r) (hg : OpD X T g r') (ha : DE X T W a Fa) (hb : DE X T W b Fb) (hc : DE X T W c Fc)
    (hm : lastMarks [op, op'] [b, c] = false := by with_unfolding_all rfl) : DT X T W (.Compare a [op, op'] [b, c] pos) (bTest (eChain f g Fa Fb Fc)) := ⟨(pt_chain ho ho' ha.run hb.run hc.run hm).weak (tTest_D (tChain_D hf hg ha hb hc))⟩
theorem dw_and1 (h : DT X T W a A) : DW X T W (.BoolOp .And [a] pos) A := ⟨pw_and1 h.run⟩
theorem dw_or1 (h : DT X T W a A) : DW X T W (.BoolOp .Or [a] pos) A := ⟨pw_or1 h.run⟩
theorem _root_.L2.PW.weak {X : Cx} {e : Expr} {t t' : TT} (h : PW X e t) (k : ∀ σ H Q, t' σ H Q → t σ H Q) : PW X e t' := ⟨fun wh pins s σ H Q I q => h.run wh pins s σ H Q I (k σ H Q q)⟩
theorem dw_and (ha : DT X T W a A) (hb : DW X T W (.BoolOp .And (b :: rest) pos) B) : DW X T W (.BoolOp .And (a :: b :: rest) pos) (bAnd A B) :=
  ⟨(pw_and ha.run hb.run).weak fun σ H Q ⟨μ, ρ, m, e, s, q⟩ => tG_mk e s (q.bind fun k m1 μ1 H1 x x1 s1 r1 q1 => by
    cases r1
    cases k with
    | true => exact iteT (tG_mk (e.ext x1) s1 q1)
    | false => exact iteF (post_here (rp := bRep) (a := false) s1 rfl q1))⟩
theorem dw_or (ha : DT X T W a A) (hb : DW X T W (.BoolOp .Or (b :: rest) pos) B) : DW X T W (.BoolOp .Or (a :: b :: rest) pos) (bOr A B) :=
  ⟨(pw_or ha.run hb.run).weak fun σ H Q ⟨μ, ρ, m, e, s, q⟩ => tG_mk e s (q.bind fun k m1 μ1 H1 x x1 s1 r1 q1 => by
    cases r1
    cases k with
    | false => exact iteF (tG_mk (e.ext x1) s1 q1)
    | true => exact iteT (post_here (rp := bRep) (a := true) s1 rfl q1))⟩
theorem dt_not (ha : DT X T W a A) : DT X T W (.UnaryOp .Not a pos) (bNot A) :=
  ⟨(pt_not ha.run).weak fun σ H Q ⟨μ, ρ, m, e, s, q⟩ => tG_mk e s (q.bind fun k m1 μ1 H1 x x1 s1 r1 q1 => by
    cases r1
    exact post_here (rp := bRep) (a := !k) s1 rfl q1)⟩
theorem de_if (hc : DT X T W c A) (ha : DE X T W a Fa) (hb : DE X T W b Fb) : DE X T W (.IfExp c a b pos) (eIf A Fa Fb) :=
  ⟨(pe_ifExp hc.run ha.run hb.run).weak fun σ H Q ⟨μ, ρ, m, e, s, q⟩ => tG_mk e s (q.bind fun k m1 μ1 H1 x x1 s1 r1 q1 => by
    cases r1
    cases k with
    | true => exact iteT (tG_mk (e.ext x1) s1 q1)
    | false => exact iteF (tG_mk (e.ext x1) s1 q1))⟩
theorem de_one {op} (h : DE X T W a Fa) : DE X T W (.BoolOp op [a] pos) Fa := ⟨pe_one h.run⟩
theorem de_and (ha : DE X T W a Fa) (hb : DE X T W (.BoolOp .And (b :: rest) pos) Fb) : DE X T W (.BoolOp .And (a :: b :: rest) pos) (eAnd Fa Fb) :=
  ⟨(pe_andT ha.run hb.run).weak fun σ H Q ⟨μ, ρ, m, e, s, q⟩ => tG_mk e s (q.bind fun d m1 μ1 H1 x x1 s1 r1 q1 => by
    split at q1
    · rename_i h
      exact ⟨true, truD_rep s1 r1 h, iteT (tG_mk (e.ext x1) s1 q1)⟩
    · rename_i h
      exact ⟨false, truD_rep s1 r1 h, iteF (post_here s1 r1 q1)⟩
    · exact q1.elim)⟩
theorem de_or (ha : DE X T W a Fa) (hb : DE X T W (.BoolOp .Or (b :: rest) pos) Fb) : DE X T W (.BoolOp .Or (a :: b :: rest) pos) (eOr Fa Fb) :=
  ⟨(pe_orT ha.run hb.run).weak fun σ H Q ⟨μ, ρ, m, e, s, q⟩ => tG_mk e s (q.bind fun d m1 μ1 H1 x x1 s1 r1 q1 => by
    split at q1
    · rename_i h
      exact ⟨true, truD_rep s1 r1 h, iteT (post_here s1 r1 q1)⟩
    · rename_i h
      exact ⟨false, truD_rep s1 r1 h, iteF (tG_mk (e.ext x1) s1 q1)⟩
    · exact q1.elim)⟩
theorem de_not (ha : DE X T W a Fa) : DE X T W (.UnaryOp .Not a pos) (eNot Fa) :=
  ⟨(pe_notT ha.run).weak fun σ H Q ⟨μ, ρ, m, e, s, q⟩ => tG_mk e s (q.bind fun d m1 μ1 H1 x x1 s1 r1 q1 => by
    split at q1
    · rename_i k h
      exact ⟨k, truD_rep s1 r1 h, post_here (a := D.bl (!k)) s1 rfl q1⟩
    · exact q1.elim)⟩
end

/-! ### statements -/
section
variable (K : PySem.W.Frag) (T : List (Addr × Str)) (W : WX)
/-- what is asked of a statement's result -/
def PostS (μ : List Addr) (H : Hp) (r : RS) (Z : Ends) : Prop :=
  match r with
  | .nx ρ' m' => ∀ μ' H' σ', Ext μ H μ' H' → Sto T K μ' H' m' → ERep K μ' H' ρ' σ' → Z.nx σ' H'
  | .rt d m' => ∀ μ' H' v, Ext μ H μ' H' → Sto T K μ' H' m' → Rep K μ' H' d v → Z.rt v H'
  | .bk ρ' m' => ∀ μ' H' σ', Ext μ H μ' H' → Sto T K μ' H' m' → ERep K μ' H' ρ' σ' → Z.bk σ' H'
  | .ct ρ' m' => ∀ μ' H' σ', Ext μ H μ' H' → Sto T K μ' H' m' → ERep K μ' H' ρ' σ' → Z.ct σ' H'
  | .ex c ns vs ρ' m' => ∀ μ' H' σ' od, Ext μ H μ' H' → Sto T K μ' H' m' → ERep K μ' H' ρ' σ' → XRep K μ' H' ns vs od → W (.ref c) od σ' H'
  | .no => False
def tS (S : SS) : TS := fun Z σ H => ∃ μ ρ m, ERep K μ H ρ σ ∧ Sto T K μ H m ∧ PostS K T W μ H (S ρ m) Z
end
section
variable (X : Cx) (T : List (Addr × Str)) (W : WX)
structure DS (s : Stmt) (S : SS) : Prop where
  run : PS X s (tS X.K T W S)
structure DSs (s : List Stmt) (S : SS) : Prop where
  run : PSs X s (tS X.K T W S)
end
/-- a part's result leads on to a statement's -/
def R.go {α : Type} (r : R α) (ρ : Env) (k : α → List C → RS) : RS :=
  match r with
  | .ok a m => k a m
  | .exc c ns vs m => .ex c ns vs ρ m
  | .no => .no
@[simp] theorem R.go_ok {α : Type} (a : α) (m : List C) (ρ : Env) (k : α → List C → RS) : (R.ok a m).go ρ k = k a m := rfl
@[simp] theorem R.go_exc {α : Type} (c : Addr) (ns : List Str) (vs : List D) (m : List C) (ρ : Env) (k : α → List C → RS) : (R.exc c ns vs m : R α).go ρ k = .ex c ns vs ρ m := rfl
@[simp] theorem R.go_no {α : Type} (ρ : Env) (k : α → List C → RS) : (R.no : R α).go ρ k = .no := rfl
def RS.seq (r : RS) (k : Env → List C → RS) : RS :=
  match r with
  | .nx ρ m => k ρ m
  | r => r
@[simp] theorem RS.seq_nx (ρ : Env) (m : List C) (k : Env → List C → RS) : (RS.nx ρ m).seq k = k ρ m := rfl
@[simp] theorem RS.seq_rt (d : D) (m : List C) (k : Env → List C → RS) : (RS.rt d m).seq k = .rt d m := rfl
@[simp] theorem RS.seq_bk (ρ : Env) (m : List C) (k : Env → List C → RS) : (RS.bk ρ m).seq k = .bk ρ m := rfl
@[simp] theorem RS.seq_ct (ρ : Env) (m : List C) (k : Env → List C → RS) : (RS.ct ρ m).seq k = .ct ρ m := rfl
@[simp] theorem RS.seq_ex (c : Addr) (ns : List Str) (vs : List D) (ρ : Env) (m : List C) (k : Env → List C → RS) : (RS.ex c ns vs ρ m).seq k = .ex c ns vs ρ m := rfl
@[simp] theorem RS.seq_no (k : Env → List C → RS) : (RS.no).seq k = .no := rfl
section
variable {K : PySem.W.Frag} {T : List (Addr × Str)} {W : WX} {μ μ' : List Addr} {H H' : Hp} {Z : Ends}
theorem PostS.ext {r : RS} (x : Ext μ H μ' H') (h : PostS K T W μ H r Z) : PostS K T W μ' H' r Z := by
  cases r with
  | no => exact h
  | rt d m => exact fun μ2 H2 v y s q => h μ2 H2 v (x.trans y) s q
  | nx ρ m => exact fun μ2 H2 v y s q => h μ2 H2 v (x.trans y) s q
  | bk ρ m => exact fun μ2 H2 v y s q => h μ2 H2 v (x.trans y) s q
  | ct ρ m => exact fun μ2 H2 v y s q => h μ2 H2 v (x.trans y) s q
  | ex c ns vs ρ m => exact fun μ2 H2 σ' od y s q z => h μ2 H2 σ' od (x.trans y) s q z
/-- an expression within a statement -/
theorem PostS.go {α β : Type} {rp : List Addr → Hp → α → β → Prop} {r : R α} {ρ : Env} {σ : L2.St} {k : α → List C → RS} {Q : β → Hp → Prop} (e : ERep K μ H ρ σ) (h : PostS K T W μ H (r.go ρ k) Z)
    (hq : ∀ a m' μ' H' v, Ext μ H μ' H' → Sto T K μ' H' m' → rp μ' H' a v → PostS K T W μ' H' (k a m') Z → Q v H') : Post rp T K W σ μ H r Q := by
  cases r with
  | ok a m => exact fun μ2 H2 v y s q => hq a m μ2 H2 v y s q (PostS.ext y h)
  | exc c ns vs m => exact fun μ2 H2 od y s q => h μ2 H2 σ od y s (e.ext y) q
  | no => exact h
theorem PostS.nx_here {ρ : Env} {m : List C} {σ : L2.St} (s : Sto T K μ H m) (e : ERep K μ H ρ σ) (h : PostS K T W μ H (.nx ρ m) Z) : Z.nx σ H := h μ H σ (.refl μ H) s e
theorem PostS.rt_here {d : D} {v : V} {m : List C} (s : Sto T K μ H m) (e : Rep K μ H d v) (h : PostS K T W μ H (.rt d m) Z) : Z.rt v H := h μ H v (.refl μ H) s e
end
def sSkip : SS := fun ρ m => .nx ρ m
def sSeq (S S' : SS) : SS := fun ρ m => (S ρ m).seq S'
def sSet (i : Nat) (F : ES) : SS := fun ρ m => (F ρ m).go ρ fun d m1 => .nx (ρ.set i (some d)) m1
def sExpr (F : ES) : SS := fun ρ m => (F ρ m).go ρ fun _ m1 => .nx ρ m1
def sRet (F : ES) : SS := fun ρ m => (F ρ m).go ρ fun d m1 => .rt d m1
def sRetN : SS := fun _ m => .rt .non m
def sIf (A : BS) (S S' : SS) : SS := fun ρ m => (A ρ m).go ρ fun b m1 => if b then S ρ m1 else S' ρ m1
def sBreak : SS := fun ρ m => .bk ρ m
def sCont : SS := fun ρ m => .ct ρ m
section
variable {X : Cx} {T : List (Addr × Str)} {W : WX} {a b c e : Expr} {st : Stmt} {sts : List Stmt} {ea eb : List Stmt} {F : ES} {A : BS} {S S' : SS} {pos : Pos}
theorem dss_nil : DSs X T W [] sSkip := ⟨pss_nil.weak fun Z σ H ⟨μ, ρ, m, e, s, q⟩ => q.nx_here s e⟩
theorem dss_cons (h1 : DS X T W st S) (h2 : DSs X T W sts S') : DSs X T W (st :: sts) (sSeq S S') := ⟨(pss_cons h1.run h2.run).weak fun Z σ H ⟨μ, ρ, m, e, s, q⟩ => ⟨μ, ρ, m, e, s, by
  unfold sSeq at q
  cases r : S ρ m with
  | nx ρ1 m1 => rw [r] at q; exact fun μ1 H1 σ1 x1 s1 e1 => ⟨μ1, ρ1, m1, e1, s1, PostS.ext x1 q⟩
  | rt d m1 => rw [r] at q; exact q
  | bk ρ1 m1 => rw [r] at q; exact q
  | ct ρ1 m1 => rw [r] at q; exact q
  | ex c ns vs ρ1 m1 => rw [r] at q; exact q
  | no => rw [r] at q; exact q⟩⟩
theorem dss_one (h1 : DS X T W st S) : DSs X T W [st] S := ⟨pss_one h1.run⟩
theorem ds_pass : DS X T W (.Pass pos) sSkip := ⟨ps_pass.weak fun Z σ H ⟨μ, ρ, m, e, s, q⟩ => q.nx_here s e⟩
theorem ds_break : DS X T W (.Break pos) sBreak := ⟨ps_break.weak fun Z σ H ⟨μ, ρ, m, e, s, q⟩ => q μ H σ (.refl μ H) s e⟩
theorem ds_continue : DS X T W (.Continue pos) sCont := ⟨ps_continue.weak fun Z σ H ⟨μ, ρ, m, e, s, q⟩ => q μ H σ (.refl μ H) s e⟩
theorem ds_expr (he : DE X T W e F) (hs : swapsWith e none pos.line X.env = pure false := by rfl) : DS X T W (.Expr e pos) (sExpr F) :=
  ⟨(ps_expr he.run hs).weak fun Z σ H ⟨μ, ρ, m, e, s, q⟩ => tG_mk e s (q.go e fun d m1 μ1 H1 x x1 s1 r1 q1 => q1.nx_here s1 (e.ext x1))⟩
theorem ds_ret (he : DE X T W e F) : DS X T W (.Return (some e) pos) (sRet F) :=
  ⟨(ps_ret he.run).weak fun Z σ H ⟨μ, ρ, m, e, s, q⟩ => tG_mk e s (q.go e fun d m1 μ1 H1 x x1 s1 r1 q1 => q1.rt_here s1 r1)⟩
theorem ds_retN : DS X T W (.Return none pos) sRetN := ⟨ps_retN.weak fun Z σ H ⟨μ, ρ, m, e, s, q⟩ => q.rt_here (d := .non) s rfl⟩
theorem ds_if (hc : DT X T W c A) (ha : DSs X T W ea S) (hb : DSs X T W eb S') : DS X T W (.If c ea eb pos) (sIf A S S') :=
  ⟨(ps_if hc.run ha.run hb.run).weak fun Z σ H ⟨μ, ρ, m, e, s, q⟩ => tG_mk e s (q.go e fun k m1 μ1 H1 x x1 s1 r1 q1 => by
    cases r1
    cases k with
    | true => exact iteT ⟨μ1, ρ, m1, e.ext x1, s1, q1⟩
    | false => exact iteF ⟨μ1, ρ, m1, e.ext x1, s1, q1⟩)⟩
theorem ds_set {i : Nat} {x : Str} {pos' : Pos} (hN : X.N.Nodup) (hi : X.N[i]? = some x) (hx : Loc X.env.scope x) (he : DE X T W e F) (hs : swapsWith e (some (.Name x pos')) pos.line X.env = pure false := by rfl)
    (hf : X.fn x = true ∨ X.env.scope.names.lookup x = some .local := by first | exact .inl rfl | exact .inr rfl | assumption) : DS X T W (.Assign [.Name x pos'] e pos) (sSet i F) :=
  ⟨(ps_set hN hi hx he.run hs hf).weak fun Z σ H ⟨μ, ρ, m, e, s, q⟩ => tG_mk e s (q.go e fun d m1 μ1 H1 v x1 s1 r1 q1 => q1.nx_here s1 ((e.ext x1).set r1))⟩
end

/-! ### defs -/
abbrev FS := List D → List C → R D
/-- the def's promise: what G says -/
def spD (K : PySem.W.Frag) (T : List (Addr × Str)) (n : Nat) (G : FS) : Sp := fun vs H Q E => vs.length = n ∧ ∃ μ ds m, RepL K μ H ds vs ∧ Sto T K μ H m ∧
  match G ds m with
  | .ok d m' => ∀ μ' H' v, Ext μ H μ' H' → Sto T K μ' H' m' → Rep K μ' H' d v → Q v H'
  | .exc c ns xs m' => ∀ μ' H' od, Ext μ H μ' H' → Sto T K μ' H' m' → XRep K μ' H' ns xs od → E (.ref c) od H'
  | .no => False
theorem spD_post {K : PySem.W.Frag} {T : List (Addr × Str)} {W : WX} {n : Nat} {G : FS} {μ : List Addr} {ds : List D} {m : List C} {vs : List V} {H : Hp} {Q : VK} {σ : L2.St} (hl : ds.length = n) (r : RepL K μ H ds vs) (s : Sto T K μ H m) (h : Post (Rep K) T K W σ μ H (G ds m) Q) : spD K T n G vs H Q (WE W σ) :=
  ⟨by rw [← r.length, hl], μ, ds, m, r, s, by
    cases e : G ds m with
    | ok d m' => rw [e] at h; exact h
    | exc c ns xs m' => rw [e] at h; exact h
    | no => rw [e] at h; exact h⟩
/-- the names at the entry -/
def startD (n : Nat) (ds : List D) : Env := ds.map some ++ List.replicate (n - ds.length) none
/-- a body as a def's result -/
def fnD (n : Nat) (S : SS) : FS := fun ds m => match S (startD n ds) m with
  | .nx _ m' => .ok .non m'
  | .rt d m' => .ok d m'
  | .ex c ns vs _ m' => .exc c ns vs m'
  | _ => .no
theorem startD_rep {K : PySem.W.Frag} {μ : List Addr} {H : Hp} {N : List Str} {ds : List D} {vs : List V} (r : RepL K μ H ds vs) : ERep K μ H (startD N.length ds) (L2.start N vs) := by
  have hl := r.length
  refine ⟨by simp [startD, L2.start, hl], fun i d e => ?_⟩
  unfold startD at e
  have hi : i < ds.length := by
    rcases Nat.lt_or_ge i ds.length with h | h
    · exact h
    · rw [List.getElem?_append_right (by simpa using h), List.getElem?_replicate] at e
      split at e <;> cases e
  rw [List.getElem?_append_left (by simpa using hi), List.getElem?_map] at e
  cases q : ds[i]? with
  | none => rw [q] at e; cases e
  | some d' =>
    rw [q] at e
    cases e
    obtain ⟨v, e1, r1⟩ := r.get q
    refine ⟨v, ?_, r1⟩
    unfold L2.start
    rw [List.getElem?_append_left (by rw [List.length_map, ← hl]; exact hi), List.getElem?_map, e1]
    rfl
section
variable {P : Program} {w : World} {K : PySem.W.Frag} {mg : Str → Option Value} {base : Heap} {T : List (Addr × Str)}
/-- THE RULE for a def -/
theorem fn_D {x qual : Str} {st : Stmt} {f : Addr} {fd : FuncData} {N ps : List Str} {k : Nat} {S : SS} (F : Fun K x qual st f fd) (Sc : FnScope N ps (defScope st))
    (hb : ∀ (cdv : Value) (A : Around) (outer : List PySem.Env) (s : Shared) (H : Hp) (E : XK), RmG k (A.deeper (envOfC qual (defScope st) s.heap.objs.size f cdv)) →
      Takes (cxOf (L2.CX P w) P w K mg base N qual (defScope st) f cdv A outer s H E) (fun cls d _ H' => E cls d H') → DSs (cxOf (L2.CX P w) P w K mg base N qual (defScope st) f cdv A outer s H E) T (fun cls d _ H' => E cls d H') (defBody st) S) :
    FnG P w K mg base (L2.CX P w) (k + 1) f fd ps (spD K T ps.length (fnD N.length S)) := by
  refine okG F Sc (fun vs H Q E h => h.1) (fun cdv A outer s H vs Q E hr h => ?_)
  obtain ⟨hl, μ, ds, m, r, sto, h⟩ := h
  refine ⟨_, (hb cdv A outer s H E hr (takes_of rfl rfl rfl rfl)).run, μ, startD N.length ds, m, startD_rep r, sto, ?_⟩
  unfold fnD at h
  cases e : S (startD N.length ds) m with
  | nx ρ1 m1 => rw [e] at h; exact fun μ1 H1 σ1 x1 s1 e1 => h μ1 H1 .non x1 s1 rfl
  | rt d m1 => rw [e] at h; exact h
  | bk ρ1 m1 => rw [e] at h; exact h.elim
  | ct ρ1 m1 => rw [e] at h; exact h.elim
  | ex c ns vs ρ1 m1 => rw [e] at h; exact fun μ1 H1 σ1 od x1 s1 e1 xr => h μ1 H1 od x1 s1 xr
  | no => rw [e] at h; exact h.elim
end
/-- a call of a def of the text -/
def eCall (n : Nat) (G : FS) (A : LS) : ES := fun ρ m => (A ρ m).bind fun ds m1 => if ds.length = n then G ds m1 else .no
section
variable {X : Cx} {T : List (Addr × Str)} {W : WX} {e : Expr} {es : List Expr} {A : LS} {pos p : Pos}
theorem de_call {k n : Nat} {f : Addr} {fd : FuncData} {ps : List Str} {x : Str} {G : FS} (tk : Takes X W) (F : FnG X.prog X.w X.K X.mg X.base (L2.CX X.prog X.w) k f fd ps (spD X.K T n G)) (hr : RmG k X.A) (hm : X.mg x = some (.ref f)) (hk : PySem.W.keepIn X.K (.ref f) = true) (hb : Binds X.K fd ps [])
    (hA : DA X T W (e :: es) A) (hg : Gl X x := by rfl) (hdb : (x == ("__debug__" : Str)) = false := by decide) (he : starEach (e :: es) X.env = (false, eval e X.env) :: starEach es X.env := by rfl) (hpl : (backTo pos (starEach es X.env)).any (·.1) = false := by rfl) :
    DE X T W (.Call (.Name x p) (e :: es) [] pos) (eCall n G A) :=
  ⟨(pe_callG (E := fun σ => WE W σ) F hr hg hm hk hb (fun σ => passAt tk σ) hA.run hdb he hpl).weak fun σ H Q ⟨μ, ρ, m, e, s, q⟩ => tG_mk e s (q.bind fun ds m1 μ1 H1 vs x1 s1 r1 q1 => by
    split at q1
    · rename_i hn
      exact spD_post hn r1 s1 q1
    · exact q1.elim)⟩
end
end DL


/-! DLd: targets, what is walked, for, while, list comprehensions of the tree layer. -/
namespace DL
open PySem PySem.Spec L2
open PyProof.Rows hiding St

/-! ### targets -/
abbrev GS := D → Env → List C → Option Env
abbrev GSs := List D → Env → List C → Option Env
/-- all but the slots ws are as they were -/
def Else (ws : List Nat) (σ σ' : L2.St) : Prop := σ'.length = σ.length ∧ ∀ j, j ∉ ws → σ'[j]? = σ[j]?
def tT (T : List (Addr × Str)) (K : PySem.W.Frag) (ws : List Nat) (g : GS) : TG := fun v σ H Q => ∃ μ ρ m d, ERep K μ H ρ σ ∧ Sto T K μ H m ∧ Rep K μ H d v ∧ ∃ ρ', g d ρ m = some ρ' ∧ ∀ σ', ERep K μ H ρ' σ' → Else ws σ σ' → Q σ' H
def tTs (T : List (Addr × Str)) (K : PySem.W.Frag) (ws : List Nat) (g : GSs) : TGs := fun vs σ H Q => ∃ μ ρ m ds, ERep K μ H ρ σ ∧ Sto T K μ H m ∧ RepL K μ H ds vs ∧ ∃ ρ', g ds ρ m = some ρ' ∧ ∀ σ', ERep K μ H ρ' σ' → Else ws σ σ' → Q σ' H
structure DG (X : Cx) (T : List (Addr × Str)) (t : Expr) (ws : List Nat) (g : GS) : Prop where
  run : PG X t (tT T X.K ws g)
structure DGs (X : Cx) (T : List (Addr × Str)) (t : List Expr) (ws : List Nat) (g : GSs) : Prop where
  run : PGs X t (tTs T X.K ws g)
def gN (i : Nat) : GS := fun d ρ _ => some (ρ.set i (some d))
def gsNil : GSs := fun ds ρ _ => match ds with
  | [] => some ρ
  | _ => none
def gsCons (g : GS) (gs : GSs) : GSs := fun ds ρ m => match ds with
  | [] => none
  | d :: ds => (g d ρ m).bind fun ρ' => gs ds ρ' m
def gT (n : Nat) (gs : GSs) : GS := fun d ρ m => match d with
  | .tup l => if l.length = n then gs l ρ m else none
  | .tmp l => if l.length = n then gs l ρ m else none
  | _ => none
theorem _root_.L2.PG.weak {X : Cx} {e : Expr} {t t' : TG} (h : PG X e t) (k : ∀ v σ H Q, t' v σ H Q → t v σ H Q) : PG X e t' := ⟨fun pins s σ H v u Q I r q => h.run pins s σ H v u Q I r (k v σ H Q q)⟩
theorem _root_.L2.PGs.weak {X : Cx} {e : List Expr} {t t' : TGs} (h : PGs X e t) (k : ∀ v σ H Q, t' v σ H Q → t v σ H Q) : PGs X e t' := ⟨fun pins s σ H v u Q I r q => h.run pins s σ H v u Q I r (k v σ H Q q)⟩
section
variable {X : Cx} {T : List (Addr × Str)} {pos : Pos}
theorem dg_name {i : Nat} {x : Str} (hN : X.N.Nodup) (hi : X.N[i]? = some x) (hx : Loc X.env.scope x) (hf : X.fn x = true ∨ X.env.scope.names.lookup x = some .local := by first | exact .inl rfl | exact .inr rfl | assumption) : DG X T (.Name x pos) [i] (gN i) :=
  ⟨(pg_name hN hi hx hf).weak fun v σ H Q ⟨μ, ρ, m, d, e, s, r, ρ', eg, h⟩ => by
    cases eg
    refine h _ (e.set r) ⟨by simp, fun j hj => ?_⟩
    rw [List.getElem?_set_ne (fun z => hj (by rw [z]; exact List.mem_singleton.mpr rfl))]⟩
theorem dgs_nil : DGs X T [] [] gsNil := ⟨pgs_nil.weak fun v σ H Q ⟨μ, ρ, m, d, e, s, r, ρ', eg, h⟩ => by
  cases d with
  | nil =>
    cases eg
    cases r
    exact ⟨rfl, h _ e ⟨rfl, fun _ _ => rfl⟩⟩
  | cons d ds => cases eg⟩
theorem dgs_cons {t : Expr} {ts : List Expr} {ws ws' : List Nat} {g : GS} {gs : GSs} (h1 : DG X T t ws g) (h2 : DGs X T ts ws' gs) (hs : (assignEach (t :: ts) X.env).map (·.2) = assign t X.env :: (assignEach ts X.env).map (·.2) := by rfl) : DGs X T (t :: ts) (ws ++ ws') (gsCons g gs) :=
  ⟨(pgs_cons h1.run h2.run hs).weak fun vs σ H Q ⟨μ, ρ, m, ds, e, s, r, ρ', eg, h⟩ => by
    cases ds with
    | nil => cases eg
    | cons d ds =>
      obtain ⟨x, xs, rfl, r1, r2⟩ := r
      change ((g d ρ m).bind fun ρ' => gs ds ρ' m) = some ρ' at eg
      cases h1 : g d ρ m with
      | none => rw [h1] at eg; cases eg
      | some ρ1 =>
        rw [h1] at eg
        refine ⟨x, xs, rfl, μ, ρ, m, d, e, s, r1, ρ1, h1, fun σ1 e1 l1 => ⟨μ, ρ1, m, ds, e1, s, r2, ρ', eg, fun σ2 e2 l2 => h σ2 e2 ⟨l2.1.trans l1.1, fun j hj => ?_⟩⟩⟩
        rw [List.mem_append, not_or] at hj
        exact (l2.2 j hj.2).trans (l1.2 j hj.1)⟩
theorem dg_tup {es : List Expr} {k n : Nat} {ws : List Nat} {gs : GSs} (hc : X.calm = true) (h : DGs X T es ws gs) (hn : (assignEach es X.env).length = n := by rfl) (hst : (assignEach es X.env).findIdx? (·.1) = none := by rfl) : DG X T (.Tuple es k pos) ws (gT n gs) :=
  ⟨(pg_tup hc h.run hn hst).weak fun v σ H Q ⟨μ, ρ, m, d, e, s, r, ρ', eg, h⟩ => by
    cases d with
    | tup l =>
      change (if l.length = n then gs l ρ m else none) = some ρ' at eg
      split at eg
      · rename_i hl
        obtain ⟨a, xs, rfl, sq, r2⟩ := r
        exact ⟨a, xs, rfl, sq.sqt, by rw [← r2.length]; exact hl, μ, ρ, m, l, e, s, r2, ρ', eg, h⟩
      · cases eg
    | tmp l =>
      change (if l.length = n then gs l ρ m else none) = some ρ' at eg
      split at eg
      · rename_i hl
        obtain ⟨a, xs, rfl, sq, r2⟩ := r
        exact ⟨a, xs, rfl, sq, by rw [← r2.length]; exact hl, μ, ρ, m, l, e, s, r2, ρ', eg, h⟩
      · cases eg
    | _ => cases eg⟩
end

/-! ### what is walked -/
/-- J yields the items, whatever else changes meanwhile -/
structure IterOk (T : List (Addr × Str)) (K : PySem.W.Frag) (J : It) (l : List D) (μ0 : List Addr) (H0 : Hp) : Prop where
  go : ∀ i H, Kept H0 H → i < l.length → J.go i H
  stop : ∀ H, Kept H0 H → J.stop l.length H
  yld : ∀ i H x H' μ m d, Kept H0 H → μ0 <+: μ → Sto T K μ H m → l[i]? = some d → J.yld i H x H' → Ext μ H μ H' ∧ Sto T K μ H' m ∧ Rep K μ H' d x
def iRep (T : List (Addr × Str)) (K : PySem.W.Frag) : List Addr → Hp → List D → It → Prop := fun μ H l J => IterOk T K J l μ H
structure DI (X : Cx) (T : List (Addr × Str)) (W : WX) (tg e : Expr) (L : LS) : Prop where
  run : PI X tg e (tG (iRep T X.K) T X.K W L)
theorem _root_.L2.PI.weak {X : Cx} {tg e : Expr} {t t' : TI} (h : PI X tg e t) (k : ∀ σ H Q, t' σ H Q → t σ H Q) : PI X tg e t' := ⟨fun pins s σ H R I q => h.run pins s σ H R I (k σ H R q)⟩
section
variable {X : Cx} {T : List (Addr × Str)} {W : WX} {tg e : Expr} {F : ES} {pos : Pos}
theorem iter_list {K : PySem.W.Frag} {μ : List Addr} {H : Hp} {a : Addr} {xs : List V} {l : List D} (h : FzL K H a xs) (r : RepL K μ H l xs) : IterOk T K (Itl K a) l μ H := by
  have st : ∀ H', Kept H H' → SqL K H' a xs := fun H' k => let ⟨o, q⟩ := h; .inl (.inr ⟨o, k.frz _ _ _ q⟩)
  refine ⟨fun i H' k hi => ?_, fun H' k => ⟨xs, st H' k, by rw [r.length]; exact Nat.le_refl _⟩, fun i H' x H2 μ' m d k hp s hd hy => ?_⟩
  · obtain ⟨v, hv, _⟩ := r.get (List.getElem?_eq_getElem hi)
    exact ⟨xs, v, st H' k, hv⟩
  · obtain ⟨rfl, hx⟩ := hy
    obtain ⟨v, hv, rv⟩ := r.get hd
    have e := hx xs (st _ k)
    rw [hv] at e
    cases e
    exact ⟨.refl _ _, s, rv.keep k hp⟩
theorem iter_tup {K : PySem.W.Frag} {μ : List Addr} {H : Hp} {a : Addr} {xs : List V} {l : List D} (h : SqT K H a xs) (r : RepL K μ H l xs) : IterOk T K (Itt K a) l μ H := by
  refine ⟨fun i H' k hi => ?_, fun H' k => ⟨xs, k.sqT h, by rw [r.length]; exact Nat.le_refl _⟩, fun i H' x H2 μ' m d k hp s hd hy => ?_⟩
  · obtain ⟨v, hv, _⟩ := r.get (List.getElem?_eq_getElem hi)
    exact ⟨xs, v, k.sqT h, hv⟩
  · obtain ⟨rfl, hx⟩ := hy
    obtain ⟨v, hv, rv⟩ := r.get hd
    have e := hx xs (k.sqT h)
    rw [hv] at e
    cases e
    exact ⟨.refl _ _, s, rv.keep k hp⟩
/-- the signs of a text -/
def charsD (x : Str) : List D := x.cps.toList.map fun c => D.str ⟨#[c]⟩
def iSeq (F : ES) : LS := fun ρ m => (F ρ m).bind fun d m1 => match d with
  | .lst l => .ok l m1
  | .tup l => .ok l m1
  | .str x => .ok (charsD x) m1
  | _ => .no
theorem _root_.L2.PI.or {X : Cx} {tg e : Expr} {t t' : TI} (h : PI X tg e t) (h' : PI X tg e t') : PI X tg e (fun σ H R => t σ H R ∨ t' σ H R) := ⟨fun pins s σ H R I q => by
  rcases q with q | q
  · exact h.run pins s σ H R I q
  · exact h'.run pins s σ H R I q⟩
theorem iter_str {K : PySem.W.Frag} {μ : List Addr} {H : Hp} {x : Str} : IterOk T K (Its x) (charsD x) μ H := by
  have hl : (charsD x).length = x.cps.size := by simp [charsD]
  refine ⟨fun i H' k hi => by rw [hl] at hi; exact hi, fun H' k => by rw [hl]; exact Nat.le_refl _, fun i H' y H2 μ' m d k hp s hd hy => ?_⟩
  obtain ⟨rfl, c, hc, rfl⟩ := hy
  refine ⟨.refl _ _, s, ?_⟩
  unfold charsD at hd
  rw [List.getElem?_map, Array.getElem?_toList, hc] at hd
  cases hd
  rfl
theorem pi_seq {l : Expr} {tl : TE} (hl : PE X l tl) : PI X tg l (fun σ H R => tl σ H fun x H1 => ∃ a, x = .ref a ∧ (((∃ xs, SqL X.K H1 a xs) ∧ R (Itl X.K a) H1) ∨ ((∃ xs, SqT X.K H1 a xs) ∧ R (Itt X.K a) H1))) := by
  refine ⟨fun pins s σ H R I h => ?_⟩
  refine thn (hl.run pins s σ H _ I h) fun v s1 ⟨x, H1, I1, r1, q1⟩ => ?_
  obtain ⟨a, e, q1⟩ := q1
  subst e
  cases r1
  rcases q1 with ⟨⟨xs, hq⟩, q⟩ | ⟨⟨xs, hq⟩, q⟩
  · obtain ⟨its, rv, p, hz⟩ := I1.list hq
    refine wpAny_pyIter_list p.isList ?_
    refine ⟨s1.heap.objs.size, [s1.heap.objs.size], _, _, H1, rfl, I1.kept (t' := s1.toks) fun b o e => Heap.get?_push_of_some _ e, turn_list a _, ⟨_, Heap.get?_push_size _ rfl, rfl, rfl⟩, fun b hb => ?_, q⟩
    have e : b = s1.heap.objs.size := by simpa using hb
    subst e
    exact I1.fpOk (Nat.le_refl _) (I1.hok.fresh (Nat.le_refl _))
  · obtain ⟨its, rv, p, hz⟩ := I1.tuple hq
    refine wpAny_pyIter_tuple (show s1.heap.IsTuple a its.toArray from p) ?_
    refine ⟨s1.heap.objs.size, [s1.heap.objs.size], _, _, H1, rfl, I1.kept (t' := s1.toks) fun b o e => Heap.get?_push_of_some _ e, turn_tuple a _, ⟨_, Heap.get?_push_size _ rfl, rfl, rfl⟩, fun b hb => ?_, q⟩
    have e : b = s1.heap.objs.size := by simpa using hb
    subst e
    exact I1.fpOk (Nat.le_refl _) (I1.hok.fresh (Nat.le_refl _))
/-- over a list that is not written, a tuple or a text -/
theorem di_seq (h : DE X T W e F) : DI X T W tg e (iSeq F) := ⟨((pi_seq h.run).or (pi_str h.run)).weak fun σ H R ⟨μ, ρ, m, er, s, q⟩ => by
  unfold iSeq at q
  cases hF : F ρ m with
  | no => rw [hF] at q; exact q.elim
  | exc c ns vs m1 => rw [hF] at q; exact .inl ⟨μ, ρ, m, er, s, by rw [hF]; exact q⟩
  | ok d m1 =>
    rw [hF] at q
    cases d with
    | lst l => exact .inl ⟨μ, ρ, m, er, s, by
        rw [hF]
        intro μ1 H1 v x1 s1 r1
        obtain ⟨a, xs, rfl, f, r⟩ := r1
        exact ⟨a, rfl, .inl ⟨⟨xs, f.sql⟩, q μ1 H1 _ x1 s1 (iter_list f r)⟩⟩⟩
    | tup l => exact .inl ⟨μ, ρ, m, er, s, by
        rw [hF]
        intro μ1 H1 v x1 s1 r1
        obtain ⟨a, xs, rfl, f, r⟩ := r1
        exact ⟨a, rfl, .inr ⟨⟨xs, f.sqt⟩, q μ1 H1 _ x1 s1 (iter_tup f.sqt r)⟩⟩⟩
    | str y => exact .inr ⟨μ, ρ, m, er, s, by
        rw [hF]
        intro μ1 H1 v x1 s1 r1
        cases r1
        exact ⟨y, rfl, q μ1 H1 _ x1 s1 iter_str⟩⟩
    | _ => exact q.elim⟩
def rangeD (lo : Int) (n : Nat) : List D := (List.range n).map fun (i : Nat) => D.int (lo + (i : Int))
theorem iter_range {K : PySem.W.Frag} {μ : List Addr} {H : Hp} (lo : Int) (n : Nat) : IterOk T K (Itr lo n) (rangeD lo n) μ H := by
  have hl : (rangeD lo n).length = n := by simp [rangeD]
  refine ⟨fun i H' k hi => by rw [hl] at hi; exact hi, fun H' k => by rw [hl]; exact Nat.le_refl _, fun i H' x H2 μ' m d k hp s hd hy => ?_⟩
  obtain ⟨rfl, rfl⟩ := hy
  refine ⟨.refl _ _, s, ?_⟩
  unfold rangeD at hd
  rw [List.getElem?_map] at hd
  cases q : (List.range n)[i]? with
  | none => rw [q] at hd; cases hd
  | some j =>
    rw [q] at hd
    cases hd
    have : j = i := by
      have := (List.getElem?_eq_some_iff.mp q).2
      simpa using this.symm
    subst this
    rfl
def small62 (i : Int) : Bool := decide (-(2 ^ 62) ≤ i) && decide (i < 2 ^ 62)
def iRng1 (G : LS) : LS := fun ρ m => (G ρ m).bind fun l m1 => match l with
  | [.int j] => if small62 j then .ok (rangeD 0 j.toNat) m1 else .no
  | _ => .no
def iRng2 (G : LS) : LS := fun ρ m => (G ρ m).bind fun l m1 => match l with
  | [.int i, .int j] => if small62 i && small62 j then .ok (rangeD i (j - i).toNat) m1 else .no
  | _ => .no
theorem small62_of {i : Int} (h : small62 i = true) : -(2 ^ 62) ≤ i ∧ i < 2 ^ 62 := by
  unfold small62 at h
  rw [Bool.and_eq_true, decide_eq_true_eq, decide_eq_true_eq] at h
  exact h
theorem repL1 {K : PySem.W.Frag} {μ : List Addr} {H : Hp} {d : D} {vs : List V} (h : RepL K μ H [d] vs) : ∃ v, vs = [v] ∧ Rep K μ H d v := by
  obtain ⟨x, xs, rfl, r, t⟩ := h
  cases t
  exact ⟨x, rfl, r⟩
theorem repL2 {K : PySem.W.Frag} {μ : List Addr} {H : Hp} {d e : D} {vs : List V} (h : RepL K μ H [d, e] vs) : ∃ v u, vs = [v, u] ∧ Rep K μ H d v ∧ Rep K μ H e u := by
  obtain ⟨x, xs, rfl, r, t⟩ := h
  obtain ⟨y, rfl, r2⟩ := repL1 t
  exact ⟨x, y, rfl, r, r2⟩
theorem di_range1 {a : Expr} {G : LS} {p : Pos} (hm : X.mg "range" = none) (ha : DA X T W [a] G) (hg : Gl X "range" := by rfl) (hs : starEach [a] X.env = [(false, eval a X.env)] := by rfl) : DI X T W tg (.Call (.Name "range" p) [a] [] pos) (iRng1 G) :=
  ⟨(pi_range1 hg hm ha.run hs).weak fun σ H R ⟨μ, ρ, m, er, s, q⟩ => tG_mk er s (q.bind fun l m1 μ1 H1 vs x1 s1 r1 q1 => by
    split at q1
    · obtain ⟨v, rfl, r⟩ := repL1 r1
      cases r
      split at q1
      · rename_i hj
        exact ⟨_, rfl, (small62_of hj).1, (small62_of hj).2, post_here (rp := iRep T X.K) s1 (iter_range _ _) q1⟩
      · exact q1.elim
    · exact q1.elim)⟩
theorem di_range2 {a b : Expr} {G : LS} {p : Pos} (hm : X.mg "range" = none) (ha : DA X T W [a, b] G) (hg : Gl X "range" := by rfl) (hs : starEach [a, b] X.env = [(false, eval a X.env), (false, eval b X.env)] := by rfl) (hpl : starEach [b] X.env = [(false, eval b X.env)] := by rfl) : DI X T W tg (.Call (.Name "range" p) [a, b] [] pos) (iRng2 G) :=
  ⟨(pi_range2 hg hm ha.run hs hpl).weak fun σ H R ⟨μ, ρ, m, er, s, q⟩ => tG_mk er s (q.bind fun l m1 μ1 H1 vs x1 s1 r1 q1 => by
    split at q1
    · obtain ⟨v, u, rfl, r, r'⟩ := repL2 r1
      cases r
      cases r'
      split at q1
      · rename_i hj
        rw [Bool.and_eq_true] at hj
        exact ⟨_, _, rfl, ⟨(small62_of hj.1).1, (small62_of hj.1).2, (small62_of hj.2).1, (small62_of hj.2).2⟩, post_here (rp := iRep T X.K) s1 (iter_range _ _) q1⟩
      · exact q1.elim
    · exact q1.elim)⟩
end

/-! ### for -/
/-- behind a turn of a loop -/
def RS.turn (r : RS) (k : Env → List C → RS) : RS :=
  match r with
  | .nx ρ m => k ρ m
  | .ct ρ m => k ρ m
  | .bk ρ m => .nx ρ m
  | r => r
@[simp] theorem RS.turn_nx (ρ : Env) (m : List C) (k : Env → List C → RS) : (RS.nx ρ m).turn k = k ρ m := rfl
@[simp] theorem RS.turn_ct (ρ : Env) (m : List C) (k : Env → List C → RS) : (RS.ct ρ m).turn k = k ρ m := rfl
@[simp] theorem RS.turn_bk (ρ : Env) (m : List C) (k : Env → List C → RS) : (RS.bk ρ m).turn k = .nx ρ m := rfl
@[simp] theorem RS.turn_rt (d : D) (m : List C) (k : Env → List C → RS) : (RS.rt d m).turn k = .rt d m := rfl
@[simp] theorem RS.turn_ex (c : Addr) (ns : List Str) (vs : List D) (ρ : Env) (m : List C) (k : Env → List C → RS) : (RS.ex c ns vs ρ m).turn k = .ex c ns vs ρ m := rfl
@[simp] theorem RS.turn_no (k : Env → List C → RS) : (RS.no).turn k = .no := rfl
def RS.opt (o : Option Env) (k : Env → RS) : RS :=
  match o with
  | some ρ => k ρ
  | none => .no
@[simp] theorem RS.opt_some (ρ : Env) (k : Env → RS) : RS.opt (some ρ) k = k ρ := rfl
@[simp] theorem RS.opt_none (k : Env → RS) : RS.opt none k = .no := rfl
def loopD (g : GS) (B : SS) : List D → Env → List C → RS
  | [], ρ, m => .nx ρ m
  | d :: ds, ρ, m => RS.opt (g d ρ m) fun ρ1 => (B ρ1 m).turn fun ρ2 m2 => loopD g B ds ρ2 m2
def sFor (L : LS) (g : GS) (B : SS) : SS := fun ρ m => (L ρ m).go ρ fun l m1 => loopD g B l ρ m1
section
variable {X : Cx} {T : List (Addr × Str)} {W : WX} {tg iter : Expr} {L : LS} {ws : List Nat} {g : GS} {B : SS} {body : List Stmt} {pos : Pos}
theorem ds_for (hp : PassesOwn (model X.prog X.w) X.A X.env X.xe) (hc : X.calm = true) (hi : DI X T W tg iter L) (hg : DG X T tg ws g) (hb : DSs X T W body B) (hs : ∀ x, foldedSetIterable iter X.env x = pure x := by intro _; rfl) : DS X T W (.For tg iter body [] pos) (sFor L g B) :=
  ⟨(ps_for hp hc hi.run hg.run hb.run hs).weak fun Z σ H ⟨μ, ρ, m, er, s, q⟩ => tG_mk er s (q.go er fun l m1 μ1 H1 J x1 s1 it q1 => by
    refine ⟨fun i n σ2 H2 => n = l.length - i ∧ i ≤ l.length ∧ ∃ μ2 ρ2 m2, Ext μ1 H1 μ2 H2 ∧ ERep X.K μ2 H2 ρ2 σ2 ∧ Sto T X.K μ2 H2 m2 ∧ PostS X.K T W μ2 H2 (loopD g B (l.drop i) ρ2 m2) Z,
      ⟨l.length, by simp, Nat.zero_le _, μ1, ρ, m1, .refl _ _, er.ext x1, s1, by simpa using q1⟩, ?_⟩
    rintro i n σ2 H2 ⟨rfl, hi, μ2, ρ2, m2, x2, e2, s2, q2⟩
    by_cases hlt : i < l.length
    · refine .inr ⟨it.go i H2 x2.kept hlt, fun σ2 H2 => l.length - (i + 1) = l.length - (i + 1) ∧ i + 1 ≤ l.length ∧ ∃ μ2 ρ2 m2, Ext μ1 H1 μ2 H2 ∧ ERep X.K μ2 H2 ρ2 σ2 ∧ Sto T X.K μ2 H2 m2 ∧ PostS X.K T W μ2 H2 (loopD g B (l.drop (i + 1)) ρ2 m2) Z, fun σ' H' w => ⟨l.length - (i + 1), ?_, w⟩, fun x H' hy => ?_⟩
      · omega
      · have hd : l[i]? = some l[i] := List.getElem?_eq_getElem hlt
        obtain ⟨x3, s3, r3⟩ := it.yld i H2 x H' μ2 m2 _ x2.kept x2.pre s2 hd hy
        rw [List.drop_eq_getElem_cons hlt] at q2
        unfold loopD at q2
        refine ⟨μ2, ρ2, m2, l[i], e2.ext x3, s3, r3, ?_⟩
        cases hgd : g l[i] ρ2 m2 with
        | none => rw [hgd] at q2; exact q2.elim
        | some ρ3 =>
          rw [hgd] at q2
          refine ⟨ρ3, rfl, fun σ3 e3 _ => ⟨μ2, ρ3, m2, e3, s3, ?_⟩⟩
          have q3 := PostS.ext x3 q2
          rw [RS.opt_some] at q3
          cases hB : B ρ3 m2 with
          | nx ρ4 m4 => rw [hB] at q3; exact fun μ4 H4 σ4 x4 s4 e4 => ⟨rfl, hlt, μ4, ρ4, m4, (x2.trans x3).trans x4, e4, s4, PostS.ext x4 q3⟩
          | ct ρ4 m4 => rw [hB] at q3; exact fun μ4 H4 σ4 x4 s4 e4 => ⟨rfl, hlt, μ4, ρ4, m4, (x2.trans x3).trans x4, e4, s4, PostS.ext x4 q3⟩
          | bk ρ4 m4 => rw [hB] at q3; exact q3
          | rt d m4 => rw [hB] at q3; exact q3
          | ex c ns vs ρ4 m4 => rw [hB] at q3; exact q3
          | no => rw [hB] at q3; exact q3
    · have e : i = l.length := by omega
      subst e
      refine .inl ⟨it.stop H2 x2.kept, ?_⟩
      rw [List.drop_length] at q2
      exact q2.nx_here s2 e2)⟩
end

/-! ### while -/
def whileD (A : BS) (B : SS) : Nat → Env → List C → RS
  | 0, _, _ => .no
  | n + 1, ρ, m => (A ρ m).go ρ fun k m1 => if k then (B ρ m1).turn (fun ρ2 m2 => whileD A B n ρ2 m2) else .nx ρ m1
theorem whileD_more {A : BS} {B : SS} : ∀ {n : Nat} {ρ : Env} {m : List C}, whileD A B n ρ m ≠ .no → ∀ k, whileD A B (n + k) ρ m = whileD A B n ρ m
  | 0, _, _, h, _ => absurd rfl h
  | n + 1, ρ, m, h, k => by
    rw [show n + 1 + k = (n + k) + 1 by omega]
    unfold whileD at h ⊢
    cases hA : A ρ m with
    | no => rfl
    | exc c ns vs m1 => rfl
    | ok b m1 =>
      rw [hA] at h
      simp only [R.go_ok] at h ⊢
      cases b with
      | false => rfl
      | true =>
        simp only [if_true] at h ⊢
        cases hB : B ρ m1 with
        | nx ρ2 m2 => rw [hB] at h; exact whileD_more h k
        | ct ρ2 m2 => rw [hB] at h; exact whileD_more h k
        | _ => rfl
open Classical in
/-- the loop with as many turns as it wants -/
noncomputable def sWhile (A : BS) (B : SS) : SS := fun ρ m => if h : ∃ n, whileD A B n ρ m ≠ .no then whileD A B h.choose ρ m else .no
theorem sWhile_of {A : BS} {B : SS} {n : Nat} {ρ : Env} {m : List C} (h : whileD A B n ρ m ≠ .no) : sWhile A B ρ m = whileD A B n ρ m := by
  have he : ∃ n, whileD A B n ρ m ≠ .no := ⟨n, h⟩
  unfold sWhile
  rw [dif_pos he]
  have h1 := whileD_more he.choose_spec n
  have h2 := whileD_more h he.choose
  rw [← h1, ← h2, Nat.add_comm]
theorem sWhile_eq (A : BS) (B : SS) (ρ : Env) (m : List C) : sWhile A B ρ m = (A ρ m).go ρ fun k m1 => if k then (B ρ m1).turn (fun ρ2 m2 => sWhile A B ρ2 m2) else .nx ρ m1 := by
  have one : ∀ n ρ m, whileD A B (n + 1) ρ m = (A ρ m).go ρ fun k m1 => if k then (B ρ m1).turn (fun ρ2 m2 => whileD A B n ρ2 m2) else .nx ρ m1 := fun _ _ _ => rfl
  have key : ∀ ρ m, (∀ n, whileD A B n ρ m = .no) → sWhile A B ρ m = .no := fun ρ m h => by
    unfold sWhile
    rw [dif_neg]
    rintro ⟨n, hn⟩
    exact hn (h n)
  cases hA : A ρ m with
  | no => exact key ρ m fun n => by cases n with
    | zero => rfl
    | succ n => rw [one, hA]; rfl
  | exc c ns vs m1 =>
    have e : whileD A B 1 ρ m = .ex c ns vs ρ m1 := by rw [one, hA]; rfl
    rw [sWhile_of (n := 1) (by rw [e]; exact fun z => nomatch z), e]
    rfl
  | ok b m1 =>
    cases b with
    | false =>
      have e : whileD A B 1 ρ m = .nx ρ m1 := by rw [one, hA]; rfl
      rw [sWhile_of (n := 1) (by rw [e]; exact fun z => nomatch z), e]
      rfl
    | true =>
      simp only [R.go_ok, if_true]
      have two : ∀ n, whileD A B (n + 1) ρ m = (B ρ m1).turn (fun ρ2 m2 => whileD A B n ρ2 m2) := fun n => by rw [one, hA]; rfl
      have rec_ : ∀ ρ2 m2, (∀ n, whileD A B (n + 1) ρ m = whileD A B n ρ2 m2) → sWhile A B ρ m = sWhile A B ρ2 m2 := fun ρ2 m2 h => by
        by_cases hx : ∃ n, whileD A B n ρ2 m2 ≠ .no
        · obtain ⟨n, hn⟩ := hx
          rw [sWhile_of hn, ← h n]
          exact sWhile_of (by rw [h n]; exact hn)
        · have h0 : ∀ n, whileD A B n ρ2 m2 = .no := fun n => Classical.byContradiction fun z => hx ⟨n, z⟩
          rw [key ρ2 m2 h0]
          exact key ρ m fun n => by cases n with
            | zero => rfl
            | succ n => rw [h n, h0]
      have fin : ∀ r, r ≠ RS.no → (∀ n, whileD A B (n + 1) ρ m = r) → sWhile A B ρ m = r := fun r hr h => by
        rw [sWhile_of (n := 1) (by rw [h 0]; exact hr), h 0]
      cases hB : B ρ m1 with
      | nx ρ2 m2 => exact rec_ ρ2 m2 fun n => by rw [two, hB]; rfl
      | ct ρ2 m2 => exact rec_ ρ2 m2 fun n => by rw [two, hB]; rfl
      | bk ρ2 m2 => exact fin _ (fun z => nomatch z) fun n => by rw [two, hB]; rfl
      | rt d m2 => exact fin _ (fun z => nomatch z) fun n => by rw [two, hB]; rfl
      | ex c ns vs ρ2 m2 => exact fin _ (fun z => nomatch z) fun n => by rw [two, hB]; rfl
      | no => exact key ρ m fun n => by cases n with
        | zero => rfl
        | succ n => rw [two, hB]; rfl
section
variable {X : Cx} {T : List (Addr × Str)} {W : WX} {c : Expr} {A : BS} {B : SS} {body : List Stmt} {pos : Pos}
theorem ds_while (hp : PassesOwn (model X.prog X.w) X.A X.env X.xe) (hc : DT X T W c A) (hb : DSs X T W body B) : DS X T W (.While c body [] pos) (sWhile A B) :=
  ⟨(ps_while hp hc.run hb.run).weak fun Z σ H ⟨μ, ρ, m, er, s, q⟩ => by
    have hx : ∃ n, whileD A B n ρ m ≠ .no := Classical.byContradiction fun z => by
      unfold sWhile at q
      rw [dif_neg z] at q
      exact q
    obtain ⟨n, hn⟩ := hx
    rw [sWhile_of hn] at q
    refine ⟨fun n σ2 H2 => ∃ μ2 ρ2 m2, Ext μ H μ2 H2 ∧ ERep X.K μ2 H2 ρ2 σ2 ∧ Sto T X.K μ2 H2 m2 ∧ PostS X.K T W μ2 H2 (whileD A B n ρ2 m2) Z, ⟨n, μ, ρ, m, .refl _ _, er, s, q⟩, ?_⟩
    rintro n σ2 H2 ⟨μ2, ρ2, m2, x2, e2, s2, q2⟩
    cases n with
    | zero => exact q2.elim
    | succ n =>
      unfold whileD at q2
      refine tG_mk e2 s2 (q2.go e2 fun k m3 μ3 H3 b x3 s3 r3 q3 => ?_)
      cases r3
      cases k with
      | false => exact iteF (q3.nx_here s3 (e2.ext x3))
      | true =>
        refine iteT ⟨_, fun σ' H' w => ⟨n, Nat.lt_succ_self n, w⟩, μ3, ρ2, m3, e2.ext x3, s3, ?_⟩
        simp only [if_true] at q3
        cases hB : B ρ2 m3 with
        | nx ρ4 m4 => rw [hB] at q3; exact fun μ4 H4 σ4 x4 s4 e4 => ⟨μ4, ρ4, m4, (x2.trans x3).trans x4, e4, s4, PostS.ext x4 q3⟩
        | ct ρ4 m4 => rw [hB] at q3; exact fun μ4 H4 σ4 x4 s4 e4 => ⟨μ4, ρ4, m4, (x2.trans x3).trans x4, e4, s4, PostS.ext x4 q3⟩
        | bk ρ4 m4 => rw [hB] at q3; exact q3
        | rt d m4 => rw [hB] at q3; exact q3
        | ex c ns vs ρ4 m4 => rw [hB] at q3; exact q3
        | no => rw [hB] at q3; exact q3⟩
end
end DL


/-! DLe: list comprehensions of the tree layer. -/
namespace DL
open PySem PySem.Spec L2
open PyProof.Rows hiding St

def wipeD (ρ : Env) : List Nat → Env
  | [] => ρ
  | v :: vs => (wipeD ρ vs).set v none
theorem ERep.wipe {K : PySem.W.Frag} {μ : List Addr} {H : Hp} {ρ : Env} {σ : L2.St} (h : ERep K μ H ρ σ) : ∀ vs, ERep K μ H (wipeD ρ vs) (L2.wipe σ vs)
  | [] => h
  | v :: vs => (h.wipe vs).unset
theorem wipe_get {σ : L2.St} : ∀ {vs : List Nat} {j : Nat}, (L2.wipe σ vs)[j]? = if j ∈ vs then (if j < σ.length then some none else none) else σ[j]?
  | [], j => by simp [L2.wipe]
  | v :: vs, j => by
    unfold L2.wipe
    by_cases hv : j = v
    · subst hv
      rw [if_pos List.mem_cons_self]
      split
      · rename_i h
        rw [List.getElem?_set_self (by rw [L2.wipe_length]; exact h)]
      · rename_i h
        rw [List.getElem?_eq_none (by rw [List.length_set, L2.wipe_length]; omega)]
    · rw [List.getElem?_set_ne (Ne.symm hv), wipe_get (vs := vs)]
      have : (j ∈ v :: vs) ↔ j ∈ vs := by simp [hv]
      by_cases h2 : j ∈ vs
      · rw [if_pos h2, if_pos (this.mpr h2)]
      · rw [if_neg h2, if_neg fun z => h2 (this.mp z)]
theorem wipe_same {σ σ' : L2.St} {ws vs : List Nat} (h : Else ws (L2.wipe σ vs) σ') (hs : ∀ j ∈ ws, j ∈ vs) : L2.wipe σ' vs = L2.wipe σ vs := by
  apply List.ext_getElem?
  intro j
  have hl : σ'.length = σ.length := h.1.trans (L2.wipe_length σ vs)
  by_cases hj : j ∈ vs
  · rw [wipe_get, wipe_get, if_pos hj, if_pos hj, hl]
  · have e := h.2 j fun z => hj (hs j z)
    rw [wipe_get, if_neg hj, e]

def compK (r : R Bool) (k1 k2 : List C → R (List D)) : R (List D) :=
  match r with
  | .ok true m => k1 m
  | .ok false m => k2 m
  | _ => .no
def compE (r : R D) (k : D → List C → R (List D)) : R (List D) :=
  match r with
  | .ok d m => k d m
  | _ => .no
def compO (o : Option Env) (k : Env → R (List D)) : R (List D) :=
  match o with
  | some ρ => k ρ
  | none => .no
@[simp] theorem compK_tt (m : List C) (k1 k2 : List C → R (List D)) : compK (.ok true m) k1 k2 = k1 m := rfl
@[simp] theorem compK_ff (m : List C) (k1 k2 : List C → R (List D)) : compK (.ok false m) k1 k2 = k2 m := rfl
@[simp] theorem compE_ok (d : D) (m : List C) (k : D → List C → R (List D)) : compE (.ok d m) k = k d m := rfl
@[simp] theorem compO_some (ρ : Env) (k : Env → R (List D)) : compO (some ρ) k = k ρ := rfl
/-- the turns of a comprehension -/
def compD (g : GS) (vs : List Nat) (A : BS) (F : ES) (ρ : Env) : List D → List C → R (List D)
  | [], m => .ok [] m
  | d :: ds, m => compO (g d (wipeD ρ vs) m) fun ρ1 => compK (A ρ1 m)
      (fun m1 => compE (F ρ1 m1) fun y m2 => (compD g vs A F ρ ds m2).bind fun ys m3 => .ok (y :: ys) m3)
      (fun m1 => compD g vs A F ρ ds m1)
def compEnd (l : List D) (m : List C) : R D := if fits l.length then .ok (.lst l) m else .no
/-- .. where the list is a cell -/
def compEndC (l : List D) (m : List C) : R D := if fits l.length then .ok (.cell m.length) (m ++ [.lst l]) else .no
def eLcC (L : LS) (g : GS) (vs : List Nat) (A : BS) (F : ES) : ES := fun ρ m => (L ρ m).bind fun l m1 => (compD g vs A F ρ l m1).bind compEndC
def eLc (L : LS) (g : GS) (vs : List Nat) (A : BS) (F : ES) : ES := fun ρ m => (L ρ m).bind fun l m1 => (compD g vs A F ρ l m1).bind compEnd
def bYes : BS := fun _ m => .ok true m
abbrev W0 : WX := fun _ _ _ _ => False
section
variable {X : Cx} {T : List (Addr × Str)} {W : WX}
structure DTs (X : Cx) (T : List (Addr × Str)) (W : WX) (es : List Expr) (F : BS) : Prop where
  run : PTs X es (tG bRep T X.K W F)
theorem dts_nil : DTs X T W [] bYes := ⟨⟨fun pins s σ H Q I ⟨μ, ρ, m, e, st, q⟩ => pts_nil.run pins s σ H Q I (post_here (rp := bRep) (a := true) st rfl q)⟩⟩
theorem dts_one {c : Expr} {A : BS} (h : DT X T W c A) : DTs X T W [c] A := ⟨pts_one h.run⟩
variable {elt tg iter : Expr} {ifs : List Expr} {scope : Scope} {own : List (Str × Nat)} {pos : Pos} {L : LS} {g : GS} {ws : List Nat} {A : BS} {F : ES}
/-- what is asked of the end -/
structure EndOk (X : Cx) (T : List (Addr × Str)) (W : WX) (E : List D → List C → R D) : Prop where
  fit : ∀ {σ : L2.St} {μ : List Addr} {H : Hp} {l : List D} {m : List C} {Q : VK}, Post (Rep X.K) T X.K W σ μ H (E l m) Q → l.length ≤ sizeLine
  fin : ∀ {σ : L2.St} {μ1 μ : List Addr} {H1 H : Hp} {ys : List D} {acc : List V} {m : List C} {D : Addr} {Q : VK}, H1 D = none → Ext μ1 H1 μ H → Sto T X.K μ H m → H D = some (.lst acc) → D ∉ μ → RepL X.K μ H ys acc →
    Post (Rep X.K) T X.K W σ μ1 H1 (E ys m) Q → FQ Q (.ref D) H
theorem endOk_frz : EndOk X T W compEnd := ⟨fun q2 => by
    unfold compEnd at q2
    split at q2
    · rename_i hf
      exact fits_iff.mp hf
    · exact q2.elim, fun {σ μ1 μ H1 H ys acc m D Q} hD xb sb hDb nD ra q2 => by
    unfold compEnd at q2
    split at q2
    · refine .inr ⟨D, .lst acc, rfl, hDb, trivial, fun od => ?_⟩
      have kp : Kept H (upd H D (.frz od (.lst acc))) := .mut (by rw [hDb]; trivial)
      refine q2 _ _ _ ⟨xb.pre, xb.kept.trans kp, fun a o h n => ?_, xb.fresh⟩ ⟨sb.len, sb.nd, fun k c a e1 e2 => ?_, tabs_set sb.tab (by rw [hDb]; trivial)⟩ ⟨D, _, rfl, ⟨od, upd_same⟩, ra.keep kp (List.prefix_refl _)⟩
      · rw [upd_ne (ne_of_none h hD)]
        exact xb.frame a o h n
      · refine (sb.rep k c a e1 e2).keep kp (List.prefix_refl _) fun u hu => ?_
        rw [upd_ne (fun z => nD (by rw [← z]; exact List.mem_of_getElem? e2))]
        exact fun _ => hu
    · exact q2.elim⟩
theorem Sto.here {K : PySem.W.Frag} {μ : List Addr} {H : Hp} {m : List C} {p : Addr} {l : List D} {acc : List V} (S : Sto T K μ H m) (hp : H p = some (.lst acc)) (np : p ∉ μ) (r : RepL K μ H l acc) : Sto T K (μ ++ [p]) H (m ++ [.lst l]) := by
  refine ⟨by simp [S.len], ?_, fun n d a e1 e2 => ?_, S.tab⟩
  · rw [List.nodup_append]
    exact ⟨S.nd, List.nodup_cons.mpr ⟨(fun z => nomatch z), List.nodup_nil⟩, fun x hx y hy z => np (by rw [← List.mem_singleton.mp hy, ← z]; exact hx)⟩
  · by_cases hn : n < m.length
    · rw [List.getElem?_append_left hn] at e1
      rw [List.getElem?_append_left (by rw [S.len]; exact hn)] at e2
      exact (S.rep n d a e1 e2).keep (.refl H) (List.prefix_append _ _) fun u e _ => e
    · rw [List.getElem?_append_right (Nat.le_of_not_lt hn)] at e1
      rw [List.getElem?_append_right (by rw [S.len]; exact Nat.le_of_not_lt hn)] at e2
      have h0 : n - m.length = 0 := by
        cases q : n - m.length with
        | zero => rfl
        | succ k => rw [q] at e1; simp at e1
      rw [h0] at e1
      rw [S.len, h0] at e2
      simp at e1 e2
      subst e1 e2
      exact ⟨acc, hp, r.keep (.refl H) (List.prefix_append _ _)⟩
theorem endOk_cell : EndOk X T W compEndC := ⟨fun q2 => by
    unfold compEndC at q2
    split at q2
    · rename_i hf
      exact fits_iff.mp hf
    · exact q2.elim, fun {σ μ1 μ H1 H ys acc m D Q} hD xb sb hDb nD ra q2 => by
    unfold compEndC at q2
    split at q2
    · refine .inl (q2 _ _ _ ⟨xb.pre.trans (List.prefix_append _ _), xb.kept, xb.frame, fun a h n => ?_⟩ (sb.here hDb nD ra) ⟨D, by rw [← sb.len]; simp, rfl⟩)
      rcases List.mem_append.mp h with z | z
      · exact xb.fresh a z n
      · rw [List.mem_singleton.mp z]; exact .inl hD
    · exact q2.elim⟩
/-- the reading of a comprehension -/
theorem tLc_D {μ1 : List Addr} {H1 : Hp} {m1 : List C} {ρ : Env} {σ : L2.St} {J : It} {l : List D} {vs : List Nat} {Q : VK} {E : List D → List C → R D} (hws : ∀ j ∈ ws, j ∈ vs) (er : ERep X.K μ1 H1 ρ σ) (s1 : Sto T X.K μ1 H1 m1) (it : IterOk T X.K J l μ1 H1)
    (q1 : Post (Rep X.K) T X.K W σ μ1 H1 ((compD g vs A F ρ l m1).bind E) Q) (hE : EndOk X T W E) :
    ∀ D, H1 D = none → ∃ Wv : Nat → Nat → Hp → Prop, (∃ m, Wv 0 m (upd H1 D (.lst []))) ∧ ∀ i m H, Wv i m H →
      (J.stop i H ∧ FQ Q (.ref D) H) ∨ (J.go i H ∧ ∃ Nx : Hp → Prop, (∀ H', Nx H' → ∃ m', m' < m ∧ Wv (i + 1) m' H') ∧ ∀ x H', J.yld i H x H' → tT T X.K ws g x (L2.wipe σ vs) H' fun σ2 H2 => L2.wipe σ2 vs = L2.wipe σ vs ∧ tG bRep T X.K W0 A σ2 H2 fun b H3 =>
        if b = true then tG (Rep X.K) T X.K W0 F σ2 H3 fun y H4 => ∃ acc, H4 D = some (.lst acc) ∧ acc.length < sizeLine ∧ Nx (upd H4 D (.lst (acc ++ [y]))) else Nx H3) := by
  intro D hD
  -- the state at turn i: the new list holds acc, which stands for ys; what is wanted is told from H1 on
  let Inv : Nat → Hp → Prop := fun i H => i ≤ l.length ∧ ∃ μ m acc ys, Ext μ1 H1 μ H ∧ Sto T X.K μ H m ∧ H D = some (.lst acc) ∧ D ∉ μ ∧ RepL X.K μ H ys acc ∧
    Post (Rep X.K) T X.K W σ μ1 H1 ((compD g vs A F ρ (l.drop i) m).bind fun zs m' => E (ys ++ zs) m') Q
  refine ⟨fun i n H => n = l.length - i ∧ Inv i H, ⟨l.length, by simp, Nat.zero_le _, μ1, m1, [], [], .new hD, s1.new hD, upd_same, ?_, rfl, ?_⟩, ?_⟩
  · intro z
    obtain ⟨o, e⟩ := s1.mem z
    rw [hD] at e
    cases e
  · rw [List.drop_zero]
    exact q1
  rintro i n H ⟨rfl, hi, μ, m, acc, ys, xb, sb, hDb, nD, ra, q⟩
  by_cases hlt : i < l.length
  · refine .inr ⟨it.go i H xb.kept hlt, fun H' => l.length - (i + 1) = l.length - (i + 1) ∧ Inv (i + 1) H', fun H' w => ⟨l.length - (i + 1), by omega, w⟩, fun x H' hy => ?_⟩
    have hd : l[i]? = some l[i] := List.getElem?_eq_getElem hlt
    obtain ⟨x3, s3, r3⟩ := it.yld i H x H' μ m _ xb.kept xb.pre sb hd hy
    have keepD : ∀ {μ' : List Addr} {H2 : Hp}, Ext μ H μ' H2 → H2 D = some (.lst acc) ∧ D ∉ μ' := fun {μ' H2} x => by
      refine ⟨?_, fun z => ?_⟩
      · rcases x.frame D _ hDb nD with e | ⟨_, e⟩
        · exact e
        · cases e
      · rcases x.fresh D z nD with e | ⟨_, e⟩ <;> (rw [e] at hDb; cases hDb)
    rw [List.drop_eq_getElem_cons hlt] at q
    unfold compD at q
    refine ⟨μ, wipeD ρ vs, m, l[i], ((er.ext xb).ext x3).wipe vs, s3, r3, ?_⟩
    cases hg : g l[i] (wipeD ρ vs) m with
    | none => rw [hg] at q; exact q.elim
    | some ρ3 =>
      rw [hg] at q
      refine ⟨ρ3, rfl, fun σ3 e3 el => ⟨wipe_same el hws, μ, ρ3, m, e3, s3, ?_⟩⟩
      rw [compO_some] at q
      cases hA : A ρ3 m with
      | no => rw [hA] at q; exact q.elim
      | exc c ns vs m4 => rw [hA] at q; exact q.elim
      | ok b m4 =>
        rw [hA] at q
        intro μ4 H4 b' x4 s4 eb
        cases eb
        cases b with
        | false =>
          rw [compK_ff] at q
          exact iteF ⟨rfl, hlt, μ4, m4, acc, ys, xb.trans (x3.trans x4), s4, (keepD (x3.trans x4)).1, (keepD (x3.trans x4)).2, ra.ext (x3.trans x4), q⟩
        | true =>
          rw [compK_tt] at q
          refine iteT ⟨μ4, ρ3, m4, e3.ext x4, s4, ?_⟩
          cases hF : F ρ3 m4 with
          | no => rw [hF] at q; exact q.elim
          | exc c ns vs m5 => rw [hF] at q; exact q.elim
          | ok y m5 =>
            rw [hF, compE_ok] at q
            intro μ5 H5 v x5 s5 rv
            have xa := (x3.trans x4).trans x5
            have n5 : H5 D = some (.lst acc) := (keepD xa).1
            have nD5 : D ∉ μ5 := (keepD xa).2
            have kp : Kept H5 (upd H5 D (.lst (acc ++ [v]))) := .mut (by rw [n5]; trivial)
            have ex : Ext μ1 H1 μ5 (upd H5 D (.lst (acc ++ [v]))) := by
              have x0 := xb.trans xa
              refine ⟨x0.pre, x0.kept.trans kp, fun a o h n => ?_, x0.fresh⟩
              rw [upd_ne (ne_of_none h hD)]
              exact x0.frame a o h n
            have q' : Post (Rep X.K) T X.K W σ μ1 H1 ((compD g vs A F ρ (l.drop (i + 1)) m5).bind fun zs m' => E (ys ++ (y :: zs)) m') Q := by
              cases hC : compD g vs A F ρ (l.drop (i + 1)) m5 with
              | no => rw [hC] at q; exact q
              | exc c ns vs m6 => exact (noExc hC).elim
              | ok zs m6 => rw [hC] at q; exact q
            refine ⟨acc, n5, ?_, rfl, hlt, μ5, m5, acc ++ [v], ys ++ [y], ex, ⟨s5.len, s5.nd, fun k c a e1 e2 => ?_, tabs_set s5.tab (by rw [n5]; trivial)⟩, upd_same, nD5, ?_, ?_⟩
            · -- the size
              cases hC : compD g vs A F ρ (l.drop (i + 1)) m5 with
              | no => rw [hC] at q'; exact q'.elim
              | exc c ns vs m6 => exact (noExc hC).elim
              | ok zs m6 =>
                rw [hC] at q'
                have h1 := hE.fit (show Post (Rep X.K) T X.K W σ μ1 H1 (E (ys ++ (y :: zs)) m6) Q from q')
                rw [List.length_append, List.length_cons, ra.length] at h1
                exact Nat.lt_of_lt_of_le (by omega) h1
            · refine (s5.rep k c a e1 e2).keep kp (List.prefix_refl _) fun u hu => ?_
              rw [upd_ne (fun z => nD5 (by rw [← z]; exact List.mem_of_getElem? e2))]
              exact fun _ => hu
            · exact ((ra.ext xa).keep kp (List.prefix_refl _)).append (.cons (rv.keep kp (List.prefix_refl _)) .nil)
            · simpa only [List.append_assoc, List.cons_append, List.nil_append] using q'
  · have e : i = l.length := by omega
    subst e
    rw [List.drop_length] at q
    refine .inl ⟨it.stop H xb.kept, ?_⟩
    have q2 : Post (Rep X.K) T X.K W σ μ1 H1 (E (ys ++ []) m) Q := q
    rw [List.append_nil] at q2
    exact hE.fin hD xb sb hDb nD ra q2
where
  noExc {g : GS} {vs : List Nat} {A : BS} {F : ES} {ρ : Env} {l : List D} {m : List C} {c : Addr} {ns : List Str} {xs : List D} {m' : List C} (h : compD g vs A F ρ l m = .exc c ns xs m') : False := by
    induction l generalizing m c ns xs m' with
    | nil => cases h
    | cons d ds ih =>
      unfold compD at h
      cases hg : g d (wipeD ρ vs) m with
      | none => rw [hg] at h; cases h
      | some ρ1 =>
        rw [hg, compO_some] at h
        cases hA : A ρ1 m with
        | no => rw [hA] at h; cases h
        | exc _ _ _ _ => rw [hA] at h; cases h
        | ok b m1 =>
          rw [hA] at h
          cases b with
          | false => exact ih h
          | true =>
            rw [compK_tt] at h
            cases hF : F ρ1 m1 with
            | no => rw [hF] at h; cases h
            | exc _ _ _ _ => rw [hF] at h; cases h
            | ok y m2 =>
              rw [hF, compE_ok] at h
              cases hC : compD g vs A F ρ ds m2 with
              | no => rw [hC] at h; cases h
              | ok _ _ => rw [hC] at h; cases h
              | exc _ _ _ _ => exact ih hC
theorem de_lc (hc : X.calm = true) (hN : X.N.Nodup) (hi : DI X T W tg iter L) (ok : BlkOk X.N X.env.scope scope own)
    (hg : ∀ (s : Shared) (H : Hp) (C : Addr) (cl : List (Str × Addr)) (fp : List Addr), DG (X.blk s H scope (compEnvC scope cl C X.env) fp) T tg ws g) (ht : ∀ (s : Shared) (H : Hp) (C : Addr) (cl : List (Str × Addr)) (fp : List Addr), DTs (X.blk s H scope (compEnvC scope cl C X.env) fp) T W0 ifs A)
    (he : ∀ (s : Shared) (H : Hp) (C : Addr) (cl : List (Str × Addr)) (fp : List Addr), DE (X.blk s H scope (compEnvC scope cl C X.env) fp) T W0 elt F) (hws : ∀ j ∈ ws, j ∈ own.map (·.2) := by decide) (hs : ∀ x, foldedSetIterable iter X.env x = pure x := by intro _; rfl) :
    DE X T W (.ListComp elt [⟨tg, iter, ifs, 0⟩] scope pos) (eLc L g (own.map (·.2)) A F) :=
  ⟨(pe_frz (pe_lc hc hN hi.run ok (fun s H C cl fp => (hg s H C cl fp).run) (fun s H C cl fp => (ht s H C cl fp).run) (fun s H C cl fp => (he s H C cl fp).run) hs)).weak fun σ H Q ⟨μ, ρ, m, er, s, q⟩ =>
    tG_mk er s (q.bind fun l m1 μ1 H1 J x1 s1 it q1 => tLc_D hws (er.ext x1) s1 it q1 endOk_frz)⟩
theorem de_lcC (hc : X.calm = true) (hN : X.N.Nodup) (hi : DI X T W tg iter L) (ok : BlkOk X.N X.env.scope scope own)
    (hg : ∀ (s : Shared) (H : Hp) (C : Addr) (cl : List (Str × Addr)) (fp : List Addr), DG (X.blk s H scope (compEnvC scope cl C X.env) fp) T tg ws g) (ht : ∀ (s : Shared) (H : Hp) (C : Addr) (cl : List (Str × Addr)) (fp : List Addr), DTs (X.blk s H scope (compEnvC scope cl C X.env) fp) T W0 ifs A)
    (he : ∀ (s : Shared) (H : Hp) (C : Addr) (cl : List (Str × Addr)) (fp : List Addr), DE (X.blk s H scope (compEnvC scope cl C X.env) fp) T W0 elt F) (hws : ∀ j ∈ ws, j ∈ own.map (·.2) := by decide) (hs : ∀ x, foldedSetIterable iter X.env x = pure x := by intro _; rfl) :
    DE X T W (.ListComp elt [⟨tg, iter, ifs, 0⟩] scope pos) (eLcC L g (own.map (·.2)) A F) :=
  ⟨(pe_frz (pe_lc hc hN hi.run ok (fun s H C cl fp => (hg s H C cl fp).run) (fun s H C cl fp => (ht s H C cl fp).run) (fun s H C cl fp => (he s H C cl fp).run) hs)).weak fun σ H Q ⟨μ, ρ, m, er, s, q⟩ =>
    tG_mk er s (q.bind fun l m1 μ1 H1 J x1 s1 it q1 => tLc_D hws (er.ext x1) s1 it q1 endOk_cell)⟩
/-- freezing behind a statement -/
theorem ps_frz {st : Stmt} {t : TS} (h : PS X st t) : PS X st (fun Z σ H => t { Z with nx := fun σ' H' => Z.nx σ' H' ∨ ∃ a u, H' a = some u ∧ Mut (some u) ∧ ∀ od, Z.nx σ' (upd H' a (.frz od u)) } σ H) := by
  refine ⟨fun pins s σ H Z I q => thn (h.run pins s σ H _ I q) fun f s' z => ?_⟩
  cases f with
  | next =>
    obtain ⟨σ', H', I', q'⟩ := z
    rcases q' with q' | ⟨a, u, e, mu, q'⟩
    · exact ⟨σ', H', I', q'⟩
    · obtain ⟨od, I2⟩ := I'.lock e mu
      exact ⟨σ', _, I2, q' od⟩
  | brk => exact z
  | cont => exact z
  | ret v => exact z
/-- name = [..] -/
theorem ds_setLc {i : Nat} {y : Str} {py : Pos} {spos : Pos} (hc : X.calm = true) (hN : X.N.Nodup) (hy : X.N[i]? = some y) (hyl : X.env.scope.names.lookup y = some .local)
    (hsw : swapsWith (.ListComp elt [⟨tg, iter, ifs, 0⟩] scope pos) (some (.Name y py)) spos.line X.env = pure true) (hi : DI X T W tg iter L) (ok : BlkOk X.N X.env.scope scope own)
    (hg : ∀ (s : Shared) (H : Hp) (C : Addr) (cl : List (Str × Addr)) (fp : List Addr), DG (X.blk s H scope (compEnvC scope cl C X.env) fp) T tg ws g) (ht : ∀ (s : Shared) (H : Hp) (C : Addr) (cl : List (Str × Addr)) (fp : List Addr), DTs (X.blk s H scope (compEnvC scope cl C X.env) fp) T W0 ifs A)
    (he : ∀ (s : Shared) (H : Hp) (C : Addr) (cl : List (Str × Addr)) (fp : List Addr), DE (X.blk s H scope (compEnvC scope cl C X.env) fp) T W0 elt F) (hws : ∀ j ∈ ws, j ∈ own.map (·.2) := by decide) (hs : ∀ x, foldedSetIterable iter X.env x = pure x := by intro _; rfl) :
    DS X T W (.Assign [.Name y py] (.ListComp elt [⟨tg, iter, ifs, 0⟩] scope pos) spos) (sSet i (eLc L g (own.map (·.2)) A F)) :=
  ⟨(ps_frz (ps_setLc hc hN hy hyl hsw hi.run ok (fun s H C cl fp => (hg s H C cl fp).run) (fun s H C cl fp => (ht s H C cl fp).run) (fun s H C cl fp => (he s H C cl fp).run) hs)).weak fun Z σ H ⟨μ, ρ, m, er, s, q⟩ => by
    have q0 : PostS X.K T W μ H ((eLc L g (own.map (·.2)) A F ρ m).go ρ fun d m1 => .nx (ρ.set i (some d)) m1) Z := q
    have p0 : Post (Rep X.K) T X.K W σ μ H (eLc L g (own.map (·.2)) A F ρ m) (fun v H' => Z.nx (σ.set i (some v)) H') := q0.go er fun d m1 μ1 H1 v x1 s1 r1 q1 => q1.nx_here s1 ((er.ext x1).set r1)
    refine tG_mk er s (p0.bind fun l m1 μ1 H1 J x1 s1 it q1 D hD => ?_)
    obtain ⟨Wv, w0, turn⟩ := tLc_D hws (er.ext x1) s1 it q1 endOk_frz D hD
    refine ⟨Wv, w0, fun i' n H' w => ?_⟩
    rcases turn i' n H' w with ⟨st, fq⟩ | go
    · refine .inl ⟨st, ?_⟩
      rcases fq with z | ⟨a, u, e, h1, h2, h3⟩
      · exact .inl z
      · cases e
        exact .inr ⟨D, u, h1, h2, h3⟩
    · exact .inr go⟩
/-- name = [..] -/
theorem ds_setLcC {i : Nat} {y : Str} {py : Pos} {spos : Pos} (hc : X.calm = true) (hN : X.N.Nodup) (hy : X.N[i]? = some y) (hyl : X.env.scope.names.lookup y = some .local)
    (hsw : swapsWith (.ListComp elt [⟨tg, iter, ifs, 0⟩] scope pos) (some (.Name y py)) spos.line X.env = pure true) (hi : DI X T W tg iter L) (ok : BlkOk X.N X.env.scope scope own)
    (hg : ∀ (s : Shared) (H : Hp) (C : Addr) (cl : List (Str × Addr)) (fp : List Addr), DG (X.blk s H scope (compEnvC scope cl C X.env) fp) T tg ws g) (ht : ∀ (s : Shared) (H : Hp) (C : Addr) (cl : List (Str × Addr)) (fp : List Addr), DTs (X.blk s H scope (compEnvC scope cl C X.env) fp) T W0 ifs A)
    (he : ∀ (s : Shared) (H : Hp) (C : Addr) (cl : List (Str × Addr)) (fp : List Addr), DE (X.blk s H scope (compEnvC scope cl C X.env) fp) T W0 elt F) (hws : ∀ j ∈ ws, j ∈ own.map (·.2) := by decide) (hs : ∀ x, foldedSetIterable iter X.env x = pure x := by intro _; rfl) :
    DS X T W (.Assign [.Name y py] (.ListComp elt [⟨tg, iter, ifs, 0⟩] scope pos) spos) (sSet i (eLcC L g (own.map (·.2)) A F)) :=
  ⟨(ps_frz (ps_setLc hc hN hy hyl hsw hi.run ok (fun s H C cl fp => (hg s H C cl fp).run) (fun s H C cl fp => (ht s H C cl fp).run) (fun s H C cl fp => (he s H C cl fp).run) hs)).weak fun Z σ H ⟨μ, ρ, m, er, s, q⟩ => by
    have q0 : PostS X.K T W μ H ((eLcC L g (own.map (·.2)) A F ρ m).go ρ fun d m1 => .nx (ρ.set i (some d)) m1) Z := q
    have p0 : Post (Rep X.K) T X.K W σ μ H (eLcC L g (own.map (·.2)) A F ρ m) (fun v H' => Z.nx (σ.set i (some v)) H') := q0.go er fun d m1 μ1 H1 v x1 s1 r1 q1 => q1.nx_here s1 ((er.ext x1).set r1)
    refine tG_mk er s (p0.bind fun l m1 μ1 H1 J x1 s1 it q1 D hD => ?_)
    obtain ⟨Wv, w0, turn⟩ := tLc_D hws (er.ext x1) s1 it q1 endOk_cell D hD
    refine ⟨Wv, w0, fun i' n H' w => ?_⟩
    rcases turn i' n H' w with ⟨st, fq⟩ | go
    · refine .inl ⟨st, ?_⟩
      rcases fq with z | ⟨a, u, e, h1, h2, h3⟩
      · exact .inl z
      · cases e
        exact .inr ⟨D, u, h1, h2, h3⟩
    · exact .inr go⟩
end
end DL


/-! DLf: operators, subscripts, slices, built-in functions on trees of data. -/
namespace DL
open PySem PySem.Spec L2
open PyProof.Rows hiding St

/-! ### arithmetic -/
def addD : D → D → List C → R D
  | .int i, .int j, m => .ok (.int (i + j)) m
  | .str x, .str y, m => if fits (x.length + y.length) then .ok (.str (x ++ y)) m else .no
  | .tup l, .tup k, m => if fits (l.length + k.length) then .ok (.tup (l ++ k)) m else .no
  | a, b, m => match lstOf m a, lstOf m b with
    | some l, some k => if fits (l.length + k.length) then .ok (.lst (l ++ k)) m else .no
    | _, _ => .no
def subD : D → D → List C → R D
  | .int i, .int j, m => .ok (.int (i - j)) m
  | _, _, _ => .no
def mulOk (i j : Int) : Bool := decide (i.natAbs.log2 + j.natAbs.log2 < 1000000)
def mulD : D → D → List C → R D
  | .int i, .int j, m => if mulOk i j then .ok (.int (i * j)) m else .no
  | _, _, _ => .no
def divOk (j : Int) : Bool := decide (0 < j) && decide (j.natAbs.log2 < 9000)
def fdivD : D → D → List C → R D
  | .int i, .int j, m => if divOk j then .ok (.int (i / j)) m else .no
  | _, _, _ => .no
def modD : D → D → List C → R D
  | .int i, .int j, m => if decide (0 < j) then .ok (.int (i % j)) m else .no
  | _, _, _ => .no
def powOk (i j : Int) : Bool := decide (0 ≤ j) && decide (j ≤ 1000000) && decide (i.natAbs < 2 ^ 64)
def powD : D → D → List C → R D
  | .int i, .int j, m => if powOk i j then .ok (.int (i ^ j.toNat)) m else .no
  | _, _, _ => .no
def negD : D → List C → R D
  | .int i, m => .ok (.int (-i)) m
  | _, _ => .no
section
variable {X : Cx} {T : List (Addr × Str)}
/-- lists that are read: whole values -/
theorem lstR {pins : List (Addr × Obj)} {σ : L2.St} {H : Hp} {s : Shared} {a : Addr} {xs : List V} (I : Inv X pins σ H s) (h : Rd H a (.lst xs)) : ∃ (its : List Value) (n : Nat), Vals xs its ∧ xs.length = its.length ∧ s.heap.get? a = some { cls := .type "list", data := .seq its.toArray n } := by
  obtain ⟨_, its, n, r, e⟩ := h.ok I.hok
  exact ⟨its, n, r, r.length, e⟩
def rCatL : R2 := fun x y H Q => ∃ l b xs zs, x = .ref l ∧ y = .ref b ∧ Rd H l (.lst xs) ∧ Rd H b (.lst zs) ∧ xs.length + zs.length ≤ sizeLine ∧ ∀ p, H p = none → Q (.ref p) (upd H p (.lst (xs ++ zs)))
theorem op_catL : OpR X (binaryOp .Add) rCatL := by
  intro pins s σ H x y v u Q I rx ry h
  obtain ⟨l, b, xs, zs, rfl, rfl, hH, hB, hz, q⟩ := h
  cases rx
  cases ry
  obtain ⟨its, n, r, hl, e⟩ := lstR I hH
  obtain ⟨its2, n2, r2, hl2, e2⟩ := lstR I hB
  refine PySem.P.add_list e e2 ?_ (by rw [List.size_toArray, List.size_toArray]; omega)
  have ea : its.toArray ++ its2.toArray = (its ++ its2).toArray := by simp
  rw [ea]
  exact ⟨.ref _, _, I.lnew (t' := s.toks) (r.append r2) (by rw [List.length_append]; omega), rfl, q _ I.fresh⟩
/-- t + u -/
def rCatF (K : PySem.W.Frag) : R2 := fun x y H Q => ∃ a b xs ys, x = .ref a ∧ y = .ref b ∧ SqT K H a xs ∧ SqT K H b ys ∧ xs.length + ys.length ≤ sizeLine ∧
  (xs = [] → Q (.ref b) H) ∧ (xs ≠ [] → ys = [] → Q (.ref a) H) ∧ (xs ≠ [] → ys ≠ [] → ∀ p o, o.dict = none → H p = none → Q (.ref p) (upd H p (.frz o (.tup (xs ++ ys)))))
theorem op_catF : OpR X (binaryOp .Add) (rCatF X.K) := by
  intro pins s σ H x y v u Q I rx ry h
  obtain ⟨a, b, xs, ys, rfl, rfl, ha, hb, hz, q0, q1, q2⟩ := h
  by_cases hx : xs = []
  · subst hx
    cases rx
    cases ry
    obtain ⟨its, r1, p1, _⟩ := I.tuple ha
    obtain ⟨its2, r2, p2, _⟩ := I.tuple hb
    cases r1
    exact cat_tup0 p1 p2 ⟨.ref b, H, I, rfl, q0 rfl⟩
  · cases rx
    cases ry
    obtain ⟨its, r1, p1, _⟩ := I.tuple ha
    obtain ⟨its2, r2, p2, _⟩ := I.tuple hb
    refine HT.cat_tup p1 p2 (fun z => hx (r1.nil_iff.mp z)) (fun z => ⟨.ref a, H, I, rfl, q1 hx (r2.nil_iff.mp z)⟩) (fun z => ?_) (by rw [← r1.length, ← r2.length]; exact hz)
    exact ⟨.ref s.heap.objs.size, _, I.laidT (tk := s.toks) (by rw [List.length_append]; exact hz) (r1.append r2), rfl, q2 hx (fun w => z (r2.nil_iff.mpr w)) _ _ rfl (I.hok.fresh (Nat.le_refl _))⟩
def rAddA (K : PySem.W.Frag) : R2 := fun x y H Q => rI0 (fun i j => .int (i + j)) x y H Q ∨ (∃ i j, x = .str i ∧ y = .str j ∧ i.length + j.length ≤ sizeLine ∧ Q (.str (i ++ j)) H) ∨ rCatF K x y H Q ∨ rCatL x y H (FQ Q)
theorem op_addA : OpR X (binaryOp .Add) (rAddA X.K) := op_add.or (op_add_str.or (op_catF.or op_catL.frz))
theorem addD_ok : OpD X T addD (rAddA X.K) := by
  intro W σ μ H m d1 d2 x y Q S r1 r2 q
  unfold addD at q
  split at q
  · cases r1; cases r2
    exact .inl ⟨_, _, rfl, rfl, post_here (a := D.int _) S rfl q⟩
  · cases r1; cases r2
    split at q
    · rename_i hf
      exact .inr (.inl ⟨_, _, rfl, rfl, fits_iff.mp hf, post_here (a := D.str _) S rfl q⟩)
    · exact q.elim
  · obtain ⟨a, xs, rfl, s1, q1⟩ := r1
    obtain ⟨b, ys, rfl, s2, q2⟩ := r2
    split at q
    · rename_i l k hf
      have hz := fits_iff.mp hf
      rw [q1.length, q2.length] at hz
      refine .inr (.inr (.inl ⟨a, b, xs, ys, rfl, rfl, s1.sqt, s2.sqt, hz, fun e => ?_, fun _ e => ?_, fun _ _ => post_newT S (q1.append q2) q⟩))
      · subst e
        exact post_here (a := D.tup _) S ⟨b, ys, rfl, s2, q1.append q2⟩ q
      · subst e
        refine post_here (a := D.tup _) S ⟨a, xs, rfl, s1, ?_⟩ q
        have := q1.append q2
        rwa [List.append_nil] at this
    · exact q.elim
  · split at q
    · rename_i l k h1 h2
      obtain ⟨a, xs, rfl, s1, q1⟩ := lstOf_rd S r1 h1
      obtain ⟨b, ys, rfl, s2, q2⟩ := lstOf_rd S r2 h2
      split at q
      · rename_i hf
        have hz := fits_iff.mp hf
        rw [q1.length, q2.length] at hz
        exact .inr (.inr (.inr ⟨a, b, xs, ys, rfl, rfl, s1, s2, hz, post_newL S (q1.append q2) q⟩))
      · exact q.elim
    · exact q.elim
theorem subD_ok : OpD X T subD (rI0 fun i j => .int (i - j)) := by
  intro W σ μ H m d1 d2 x y Q S r1 r2 q
  unfold subD at q
  split at q
  · cases r1; cases r2
    exact ⟨_, _, rfl, rfl, post_here (a := D.int _) S rfl q⟩
  · exact q.elim
theorem mulD_ok : OpD X T mulD (rI CMulW fun i j => .int (i * j)) := by
  intro W σ μ H m d1 d2 x y Q S r1 r2 q
  unfold mulD at q
  split at q
  · cases r1; cases r2
    split at q
    · rename_i h
      unfold mulOk at h
      rw [decide_eq_true_eq] at h
      exact ⟨_, _, rfl, rfl, h, post_here (a := D.int _) S rfl q⟩
    · exact q.elim
  · exact q.elim
theorem fdivD_ok : OpD X T fdivD (rI CDivW fun i j => .int (i / j)) := by
  intro W σ μ H m d1 d2 x y Q S r1 r2 q
  unfold fdivD at q
  split at q
  · cases r1; cases r2
    split at q
    · rename_i h
      unfold divOk at h
      rw [Bool.and_eq_true, decide_eq_true_eq, decide_eq_true_eq] at h
      exact ⟨_, _, rfl, rfl, h, post_here (a := D.int _) S rfl q⟩
    · exact q.elim
  · exact q.elim
theorem modD_ok : OpD X T modD (rI (fun _ j => 0 < j) fun i j => .int (i % j)) := by
  intro W σ μ H m d1 d2 x y Q S r1 r2 q
  unfold modD at q
  split at q
  · cases r1; cases r2
    split at q
    · rename_i h
      exact ⟨_, _, rfl, rfl, of_decide_eq_true h, post_here (a := D.int _) S rfl q⟩
    · exact q.elim
  · exact q.elim
theorem powD_ok : OpD X T powD (rI CPow fun i j => .int (i ^ j.toNat)) := by
  intro W σ μ H m d1 d2 x y Q S r1 r2 q
  unfold powD at q
  split at q
  · cases r1; cases r2
    split at q
    · rename_i h
      unfold powOk at h
      rw [Bool.and_eq_true, Bool.and_eq_true, decide_eq_true_eq, decide_eq_true_eq, decide_eq_true_eq] at h
      exact ⟨_, _, rfl, rfl, ⟨h.1.1, h.1.2, h.2⟩, post_here (a := D.int _) S rfl q⟩
    · exact q.elim
  · exact q.elim
theorem negD_ok : UnD X T negD (rU fun i => .int (-i)) := by
  intro W σ μ H m d1 x Q S r1 q
  unfold negD at q
  split at q
  · cases r1
    exact ⟨_, rfl, post_here (a := D.int _) S rfl q⟩
  · exact q.elim
end

/-! ### comparisons -/
def cmpD (p : Int → Int → Bool) : D → D → List C → R D
  | .int i, .int j, m => .ok (.bl (p i j)) m
  | _, _, _ => .no
mutual
def D.data : D → Option PyData
  | .non => some .none
  | .bl b => some (.bool b)
  | .int i => some (.int i)
  | .str x => some (.str x)
  | .tup l => (D.dataL l).map .tuple
  | .lst l => (D.dataL l).map .list
  | _ => none
def D.dataL : List D → Option (List PyData)
  | [] => some []
  | d :: l => (D.data d).bind fun x => (D.dataL l).map fun xs => x :: xs
end
mutual
/-- the data of a value, what its cells hold with it -/
def dataOf (m : List C) : D → Option PyData
  | .cell n => match m[n]? with
    | some (.lst l) => (D.dataL l).map .list
    | _ => none
  | .tup l => (dataOfL m l).map .tuple
  | .lst l => (dataOfL m l).map .list
  | .non => some .none
  | .bl b => some (.bool b)
  | .int i => some (.int i)
  | .str x => some (.str x)
  | _ => none
def dataOfL (m : List C) : List D → Option (List PyData)
  | [] => some []
  | d :: l => (dataOf m d).bind fun x => (dataOfL m l).map fun xs => x :: xs
end
/-- == : texts whatever their signs, all else as data -/
def eqD : D → D → List C → R D := fun a b m => match a, b with
  | .str x, .str y => .ok (.bl (decide (x = y))) m
  | a, b => match dataOf m a, dataOf m b with
    | some x, some y => if SeqAt.shaped x && SeqAt.shaped y then .ok (.bl (PyData.eqv x y)) m else .no
    | _, _ => .no
def neD : D → D → List C → R D := fun a b m => match a, b with
  | .str x, .str y => .ok (.bl (!decide (x = y))) m
  | a, b => match dataOf m a, dataOf m b with
    | some x, some y => if SeqAt.shaped x && SeqAt.shaped y then .ok (.bl (!PyData.eqv x y)) m else .no
    | _, _ => .no
def rEqS (K : PySem.W.Frag) : R2 := fun x y H Q => rEq x y H Q ∨ rEqD K x y H Q
def rNeS (K : PySem.W.Frag) : R2 := fun x y H Q => rNe x y H Q ∨ rNeD K x y H Q
theorem op_eqS {X : Cx} (hu : X.A.units + 64 < cLine) : OpR X (compareOp .Eq) (rEqS X.K) := op_eq.or (op_eqD hu)
theorem op_neS {X : Cx} (hu : X.A.units + 64 < cLine) : OpR X (compareOp .NotEq) (rNeS X.K) := op_ne.or (op_neD hu)
section
variable {K : PySem.W.Frag} {μ : List Addr} {H : Hp}
mutual
theorem data_dp : ∀ (d : D) {v : V} {x : PyData}, Rep K μ H d v → d.data = some x → Dp K H v x
  | .non, _, _, r, e => by cases r; cases e; exact .non
  | .bl _, _, _, r, e => by cases r; cases e; exact .bl _
  | .int _, _, _, r, e => by cases r; cases e; exact .int _
  | .str _, _, _, r, e => by cases r; cases e; exact .str _
  | .tup l, _, _, r, e => by
    obtain ⟨a, xs, rfl, s, q⟩ := r
    unfold D.data at e
    cases h : D.dataL l with
    | none => rw [h] at e; cases e
    | some ys =>
      rw [h] at e
      cases e
      exact .tup s.sqt (data_dpL l q h)
  | .lst l, _, _, r, e => by
    obtain ⟨a, xs, rfl, s, q⟩ := r
    unfold D.data at e
    cases h : D.dataL l with
    | none => rw [h] at e; cases e
    | some ys =>
      rw [h] at e
      cases e
      exact .lst s.sql (data_dpL l q h)
  | .ty _, _, _, _, e => by simp [D.data] at e
  | .tmp _, _, _, _, e => by simp [D.data] at e
  | .dic _ _, _, _, _, e => by simp [D.data] at e
  | .ref _, _, _, _, e => by simp [D.data] at e
  | .cell _, _, _, _, e => by simp [D.data] at e
  | .lam _ _ _ _ _, _, _, _, e => by simp [D.data] at e
  | .scr _, _, _, _, e => by simp [D.data] at e
  | .err _ _ _, _, _, _, e => by simp [D.data] at e
theorem data_dpL : ∀ (l : List D) {vs : List V} {xs : List PyData}, RepL K μ H l vs → D.dataL l = some xs → DpAll K H vs xs
  | [], _, _, r, e => by cases r; cases e; exact .nil
  | d :: l, _, _, r, e => by
    obtain ⟨v, vs, rfl, r1, r2⟩ := r
    unfold D.dataL at e
    cases h1 : d.data with
    | none => rw [h1] at e; cases e
    | some x =>
      rw [h1] at e
      cases h2 : D.dataL l with
      | none => rw [h2] at e; cases e
      | some xs =>
        rw [h2] at e
        cases e
        exact .cons (data_dp d r1 h1) (data_dpL l r2 h2)
end
mutual
theorem dataOf_dp {T : List (Addr × Str)} {m : List C} (S : Sto T K μ H m) : ∀ {d : D} {v : V} {x : PyData}, Rep K μ H d v → dataOf m d = some x → Dp K H v x
  | .cell n, v, x, r, e => by
    obtain ⟨a, ea, rfl⟩ := r
    unfold dataOf at e
    split at e
    · rename_i l hm
      obtain ⟨xs, ex, q⟩ := S.rep n _ a hm ea
      cases h2 : D.dataL l with
      | none => rw [h2] at e; cases e
      | some ys =>
        rw [h2] at e
        cases e
        exact .lst (SqL.of ex) (data_dpL l q h2)
    · cases e
  | .tup l, v, x, r, e => by
    obtain ⟨a, xs, rfl, s, q⟩ := r
    unfold dataOf at e
    cases h2 : dataOfL m l with
    | none => rw [h2] at e; cases e
    | some ys =>
      rw [h2] at e
      cases e
      exact .tup s.sqt (dataOfL_dp S q h2)
  | .lst l, v, x, r, e => by
    obtain ⟨a, xs, rfl, s, q⟩ := r
    unfold dataOf at e
    cases h2 : dataOfL m l with
    | none => rw [h2] at e; cases e
    | some ys =>
      rw [h2] at e
      cases e
      exact .lst s.sql (dataOfL_dp S q h2)
  | .non, _, _, r, e => by cases r; cases e; exact .non
  | .bl _, _, _, r, e => by cases r; cases e; exact .bl _
  | .int _, _, _, r, e => by cases r; cases e; exact .int _
  | .str _, _, _, r, e => by cases r; cases e; exact .str _
  | .ty _, _, _, _, e => by simp [dataOf] at e
  | .tmp _, _, _, _, e => by simp [dataOf] at e
  | .dic _ _, _, _, _, e => by simp [dataOf] at e
  | .ref _, _, _, _, e => by simp [dataOf] at e
  | .lam _ _ _ _ _, _, _, _, e => by simp [dataOf] at e
  | .scr _, _, _, _, e => by simp [dataOf] at e
  | .err _ _ _, _, _, _, e => by simp [dataOf] at e
theorem dataOfL_dp {T : List (Addr × Str)} {m : List C} (S : Sto T K μ H m) : ∀ {l : List D} {vs : List V} {xs : List PyData}, RepL K μ H l vs → dataOfL m l = some xs → DpAll K H vs xs
  | [], _, _, r, e => by cases r; cases e; exact .nil
  | d :: l, _, xs, r, e => by
    obtain ⟨v, vs, rfl, r1, r2⟩ := r
    unfold dataOfL at e
    cases h1 : dataOf m d with
    | none => rw [h1] at e; cases e
    | some y =>
      cases h2 : dataOfL m l with
      | none => rw [h1, h2] at e; cases e
      | some ys =>
        rw [h1, h2] at e
        cases e
        exact .cons (dataOf_dp S r1 h1) (dataOfL_dp S r2 h2)
end
mutual
theorem dataOf_pure {m : List C} : ∀ {d : D} {x : PyData}, d.data = some x → dataOf m d = some x
  | .non, _, e => e
  | .bl _, _, e => e
  | .int _, _, e => e
  | .str _, _, e => e
  | .tup l, x, e => by
    unfold D.data at e
    unfold dataOf
    cases h : D.dataL l with
    | none => rw [h] at e; cases e
    | some ys => rw [h] at e; rw [dataOfL_pure h]; exact e
  | .lst l, x, e => by
    unfold D.data at e
    unfold dataOf
    cases h : D.dataL l with
    | none => rw [h] at e; cases e
    | some ys => rw [h] at e; rw [dataOfL_pure h]; exact e
  | .ty _, _, e => by simp [D.data] at e
  | .tmp _, _, e => by simp [D.data] at e
  | .dic _ _, _, e => by simp [D.data] at e
  | .ref _, _, e => by simp [D.data] at e
  | .cell _, _, e => by simp [D.data] at e
  | .lam _ _ _ _ _, _, e => by simp [D.data] at e
  | .scr _, _, e => by simp [D.data] at e
  | .err _ _ _, _, e => by simp [D.data] at e
theorem dataOfL_pure {m : List C} : ∀ {l : List D} {xs : List PyData}, D.dataL l = some xs → dataOfL m l = some xs
  | [], _, e => e
  | d :: l, xs, e => by
    unfold D.dataL at e
    unfold dataOfL
    cases h1 : d.data with
    | none => rw [h1] at e; cases e
    | some y =>
      cases h2 : D.dataL l with
      | none => rw [h1, h2] at e; cases e
      | some ys => rw [h1, h2] at e; rw [dataOf_pure h1, dataOfL_pure h2]; exact e
end
end
def D.isNon : D → Bool
  | .non => true
  | _ => false
def isND : D → D → List C → R D := fun a b m => match b with
  | .non => .ok (.bl a.isNon) m
  | _ => .no
def notND : D → D → List C → R D := fun a b m => match b with
  | .non => .ok (.bl (!a.isNon)) m
  | _ => .no
section
variable {X : Cx} {T : List (Addr × Str)}
theorem cmpD_ok {p : Int → Int → Bool} : OpD X T (cmpD p) (rI0 fun i j => .bl (p i j)) := by
  intro W σ μ H m d1 d2 x y Q S r1 r2 q
  unfold cmpD at q
  split at q
  · cases r1; cases r2
    exact ⟨_, _, rfl, rfl, post_here (a := D.bl _) S rfl q⟩
  · exact q.elim
theorem eqD_ok : OpD X T eqD (rEqS X.K) := by
  intro W σ μ H m d1 d2 x y Q S r1 r2 q
  unfold eqD at q
  split at q
  · rename_i a b
    cases r1; cases r2
    refine .inl ⟨rfl, ?_⟩
    rw [decide_eq_decide.mpr (show (V.str a = V.str b) ↔ a = b from ⟨fun z => by cases z; rfl, fun z => by rw [z]⟩)]
    exact post_here (a := D.bl _) S rfl q
  · split at q
    · rename_i a b h1 h2
      split at q
      · rename_i hs
        rw [Bool.and_eq_true] at hs
        exact .inr ⟨a, b, dataOf_dp S r1 h1, dataOf_dp S r2 h2, hs.1, hs.2, post_here (a := D.bl _) S rfl q⟩
      · exact q.elim
    · exact q.elim
theorem neD_ok : OpD X T neD (rNeS X.K) := by
  intro W σ μ H m d1 d2 x y Q S r1 r2 q
  unfold neD at q
  split at q
  · rename_i a b
    cases r1; cases r2
    refine .inl ⟨rfl, ?_⟩
    rw [decide_eq_decide.mpr (show (V.str a = V.str b) ↔ a = b from ⟨fun z => by cases z; rfl, fun z => by rw [z]⟩)]
    exact post_here (a := D.bl _) S rfl q
  · split at q
    · rename_i a b h1 h2
      split at q
      · rename_i hs
        rw [Bool.and_eq_true] at hs
        exact .inr ⟨a, b, dataOf_dp S r1 h1, dataOf_dp S r2 h2, hs.1, hs.2, post_here (a := D.bl _) S rfl q⟩
      · exact q.elim
    · exact q.elim
theorem nonV {K : PySem.W.Frag} {μ : List Addr} {H : Hp} {d : D} {v : V} (r : Rep K μ H d v) : d.isNon = decide (v = .non) := by
  cases d with
  | tup l => obtain ⟨a, xs, rfl, _⟩ := r; rfl
  | tmp l => obtain ⟨a, xs, rfl, _⟩ := r; rfl
  | lst l => obtain ⟨a, xs, rfl, _⟩ := r; rfl
  | dic l k => obtain ⟨a, xs, o, rfl, _⟩ := r; rfl
  | cell n => obtain ⟨a, _, rfl⟩ := r; rfl
  | lam f c q ds vs => obtain ⟨rfl, _⟩ := r; rfl
  | scr ns => obtain ⟨a, rfl, _⟩ := r; rfl
  | err c ns vs => obtain ⟨a, _, _, rfl, _⟩ := r; rfl
  | _ => cases r; rfl
theorem isND_ok : OpD X T isND (fun x y H Q => y = .non ∧ Q (.bl (decide (x = .non))) H) := by
  intro W σ μ H m d1 d2 x y Q S r1 r2 q
  unfold isND at q
  split at q
  · cases r2
    rw [nonV r1] at q
    exact ⟨rfl, post_here (a := D.bl _) S rfl q⟩
  · exact q.elim
theorem notND_ok : OpD X T notND (fun x y H Q => y = .non ∧ Q (.bl (!decide (x = .non))) H) := by
  intro W σ μ H m d1 d2 x y Q S r1 r2 q
  unfold notND at q
  split at q
  · cases r2
    rw [nonV r1] at q
    exact ⟨rfl, post_here (a := D.bl _) S rfl q⟩
  · exact q.elim
end
end DL


/-! DLg: subscripts, slices, dicts, stores, built-in functions and methods on trees of data. -/
namespace DL
open PySem PySem.Spec L2
open PyProof.Rows hiding St

/-! ### dicts as two lists -/
def lookD : List Key → List D → Key → Option D
  | k' :: ks, v :: vs, k => if k' = k then some v else lookD ks vs k
  | _, _, _ => none
def putVs : List Key → List D → Key → D → List D
  | k' :: ks, v' :: vs, k, v => (if k' = k then v else v') :: putVs ks vs k v
  | _, vs, _, _ => vs
def hasK (ks : List Key) (k : Key) : Bool := ks.any fun k' => decide (k' = k)
def putD (ks : List Key) (vs : List D) (k : Key) (v : D) : List Key × List D := if hasK ks k then (ks, putVs ks vs k v) else (ks ++ [k], vs ++ [v])
def dropKs : List Key → List D → Key → List Key × List D
  | k' :: ks, v :: vs, k => if k' = k then dropKs ks vs k else (k' :: (dropKs ks vs k).1, v :: (dropKs ks vs k).2)
  | _, _, _ => ([], [])
section
variable {K : PySem.W.Frag} {μ : List Addr} {H : Hp}
theorem lookD_rep : ∀ {ks : List Key} {vs : List D} {xs : List V} {k : Key}, RepL K μ H vs xs → ks.length = vs.length →
    (∀ d, lookD ks vs k = some d → ∃ v, valV (ks.zip xs) k = some v ∧ Rep K μ H d v) ∧ (lookD ks vs k = none → valV (ks.zip xs) k = none)
  | [], vs, xs, k, _, _ => ⟨fun _ e => by simp [lookD] at e, fun _ => rfl⟩
  | k' :: ks, [], _, _, _, e => by cases e
  | k' :: ks, v :: vs, _, k, r, e => by
    obtain ⟨x, xs, rfl, r1, r2⟩ := r
    have ih := lookD_rep (ks := ks) (k := k) r2 (Nat.succ.inj e)
    unfold lookD
    by_cases h : k' = k
    · rw [if_pos h]
      refine ⟨fun d hd => ?_, fun z => nomatch z⟩
      cases hd
      exact ⟨x, by rw [List.zip_cons_cons, valV_pos (p := (k', x)) h], r1⟩
    · rw [if_neg h]
      rw [List.zip_cons_cons, valV_neg (p := (k', x)) h]
      exact ih
theorem zip_any {k : Key} : ∀ {ks : List Key} {xs : List V}, ks.length = xs.length → ((ks.zip xs).any fun kv => decide (kv.1 = k)) = hasK ks k
  | [], [], _ => rfl
  | [], _ :: _, e => by cases e
  | _ :: _, [], e => by cases e
  | k' :: ks, x :: xs, e => by
    rw [List.zip_cons_cons, List.any_cons, zip_any (Nat.succ.inj e)]
    rfl
theorem putVs_rep : ∀ {ks : List Key} {vs : List D} {xs : List V} {k : Key} {d : D} {v : V}, RepL K μ H vs xs → ks.length = vs.length → Rep K μ H d v →
    ∃ ys, (ks.zip xs).map (fun kv => if kv.1 = k then (kv.1, v) else kv) = ks.zip ys ∧ RepL K μ H (putVs ks vs k d) ys ∧ (putVs ks vs k d).length = vs.length
  | [], vs, xs, k, d, v, r, e, _ => by
    have : vs = [] := by simpa using e.symm
    subst this
    cases r
    exact ⟨[], rfl, rfl, rfl⟩
  | k' :: ks, [], _, _, _, _, _, e, _ => by cases e
  | k' :: ks, v' :: vs, _, k, d, v, r, e, rv => by
    obtain ⟨x, xs, rfl, r1, r2⟩ := r
    obtain ⟨ys, h1, h2, h3⟩ := putVs_rep (ks := ks) (k := k) r2 (Nat.succ.inj e) rv
    by_cases h : k' = k
    · refine ⟨v :: ys, ?_, ?_, ?_⟩
      · rw [List.zip_cons_cons, List.map_cons, if_pos h, h1, List.zip_cons_cons]
      · unfold putVs
        rw [if_pos h]
        exact .cons rv h2
      · unfold putVs
        rw [List.length_cons, h3, List.length_cons]
    · refine ⟨x :: ys, ?_, ?_, ?_⟩
      · rw [List.zip_cons_cons, List.map_cons, if_neg h, h1, List.zip_cons_cons]
      · unfold putVs
        rw [if_neg h]
        exact .cons r1 h2
      · unfold putVs
        rw [List.length_cons, h3, List.length_cons]
theorem putD_rep {ks : List Key} {vs : List D} {xs : List V} {k : Key} {d : D} {v : V} (r : RepL K μ H vs xs) (e : ks.length = vs.length) (rv : Rep K μ H d v) :
    ∃ ys, putK (ks.zip xs) k v = (putD ks vs k d).1.zip ys ∧ RepL K μ H (putD ks vs k d).2 ys ∧ (putD ks vs k d).1.length = (putD ks vs k d).2.length := by
  have hl : ks.length = xs.length := by rw [e, r.length]
  unfold putK putD
  rw [zip_any hl]
  by_cases h : hasK ks k = true
  · rw [if_pos h, if_pos h]
    obtain ⟨ys, h1, h2, h3⟩ := putVs_rep r e rv
    exact ⟨ys, h1, h2, by rw [h3, e]⟩
  · rw [if_neg h, if_neg h]
    refine ⟨xs ++ [v], ?_, r.append (.cons rv .nil), by simp [e]⟩
    rw [List.zip_append hl]
    rfl
theorem dropKs_rep : ∀ {ks : List Key} {vs : List D} {xs : List V} {k : Key}, RepL K μ H vs xs → ks.length = vs.length →
    ∃ ys, dropK (ks.zip xs) k = (dropKs ks vs k).1.zip ys ∧ RepL K μ H (dropKs ks vs k).2 ys ∧ (dropKs ks vs k).1.length = (dropKs ks vs k).2.length
  | [], vs, xs, k, r, e => ⟨[], rfl, rfl, rfl⟩
  | k' :: ks, [], _, _, _, e => by cases e
  | k' :: ks, v' :: vs, _, k, r, e => by
    obtain ⟨x, xs, rfl, r1, r2⟩ := r
    obtain ⟨ys, h1, h2, h3⟩ := dropKs_rep (ks := ks) (k := k) r2 (Nat.succ.inj e)
    unfold dropKs
    by_cases h : k' = k
    · rw [if_pos h]
      refine ⟨ys, ?_, h2, h3⟩
      rw [← h1, List.zip_cons_cons]
      unfold dropK
      rw [List.filter_cons, if_neg (by simp [h])]
    · rw [if_neg h]
      refine ⟨x :: ys, ?_, .cons r1 h2, by simp [h3]⟩
      show dropK (((k', x)) :: ks.zip xs) k = (k', x) :: ((dropKs ks vs k).1.zip ys)
      rw [← h1]
      unfold dropK
      rw [List.filter_cons, if_pos (by simp [h])]
end
def keyOf : D → Option Key
  | .int i => some (.inl i)
  | .str x => some (.inr x)
  | _ => none
theorem keyOf_rep {K : PySem.W.Frag} {μ : List Addr} {H : Hp} {d : D} {v : V} {k : Key} (r : Rep K μ H d v) (e : keyOf d = some k) : v = kV k := by
  cases d <;> first | (cases e; cases r; rfl) | cases e
def dicOf (m : List C) : D → Option (List Key × List D)
  | .dic ks vs => some (ks, vs)
  | .cell n => match m[n]? with
    | some (.dic ks vs) => some (ks, vs)
    | _ => none
  | _ => none
section
variable {T : List (Addr × Str)} {K : PySem.W.Frag} {μ : List Addr} {H : Hp} {m : List C} {W : WX} {σ : L2.St}
theorem dicOf_rep (S : Sto T K μ H m) {d : D} {v : V} {ks : List Key} {vs : List D} (r : Rep K μ H d v) (e : dicOf m d = some (ks, vs)) : ∃ a xs, v = .ref a ∧ Rd H a (.dK (ks.zip xs)) ∧ ks.length = vs.length ∧ RepL K μ H vs xs := by
  cases d with
  | dic l k =>
    cases e
    obtain ⟨a, xs, o, rfl, f, hl, q⟩ := r
    exact ⟨a, xs, rfl, .inr ⟨o, f⟩, hl, q⟩
  | cell n =>
    obtain ⟨a, ea, rfl⟩ := r
    unfold dicOf at e
    cases hm : m[n]? with
    | none => simp [hm] at e
    | some c =>
      cases c with
      | dic l k =>
        simp only [hm, Option.some.injEq, Prod.mk.injEq] at e
        obtain ⟨rfl, rfl⟩ := e
        obtain ⟨xs, ex, hl, q⟩ := S.rep n _ a hm ea
        exact ⟨a, xs, rfl, .inl ex, hl, q⟩
      | _ => simp [hm] at e
  | _ => cases e
end

/-! ### subscripts -/
def ixD : D → D → List C → R D := fun d k m => match d, k with
  | .str x, .int i => if fits x.length then (match atI x.cps.toList i with
    | some c => .ok (.str ⟨#[c]⟩) m
    | none => .no) else .no
  | d, k => match seqOf m d, k with
    | some l, .int i => (match atI l i with
      | some v => .ok v m
      | none => .no)
    | _, _ => match dicOf m d, keyOf k with
      | some (ks, vs), some k => (match lookD ks vs k with
        | some v => .ok v m
        | none => .no)
      | _, _ => .no
def rIxA (K : PySem.W.Frag) : R2 := fun x y H Q => rIx K x y H Q ∨ ∃ a v, x = .ref a ∧ DGet H a y (some v) ∧ Q v H
section
variable {X : Cx} {T : List (Addr × Str)}
theorem ix_dict (hu : X.A.units + 1 < cLine) : IxR X (fun x y H Q => ∃ a v, x = .ref a ∧ DGet H a y (some v) ∧ Q v H) := by
  intro value slice pins s σ H x y v u Q I rx ry h hs
  obtain ⟨a, z, rfl, g, q⟩ := h
  cases rx
  exact tail_any (dict_typeIs I g) PySem.F.slot_dict_getitem.lookup (d_getItem hu I g ry fun w' s3 I3 rw' => ⟨z, H, I3, rw', q⟩) hs
theorem ix_A (hu : X.A.units + 1 < cLine) : IxR X (rIxA X.K) := ix_seq.or (ix_dict hu)
theorem atI_rep {K : PySem.W.Frag} {μ : List Addr} {H : Hp} {l : List D} {xs : List V} {i : Int} {d : D} (r : RepL K μ H l xs) (e : atI l i = some d) : ∃ v, atI xs i = some v ∧ Rep K μ H d v := by
  unfold atI at e ⊢
  rw [← r.length]
  cases h : ixN l.length i with
  | none => rw [h] at e; cases e
  | some j =>
    rw [h] at e
    exact r.get e
theorem ixD_ok : OpD X T ixD (rIxA X.K) := by
  intro W σ μ H m d1 d2 x y Q S r1 r2 q
  unfold ixD at q
  split at q
  · cases r1; cases r2
    split at q
    · rename_i hf
      split at q
      · rename_i c hc
        exact .inl (.inr (.inr ⟨_, _, c, rfl, rfl, fits_iff.mp hf, hc, post_here (a := D.str _) S rfl q⟩))
      · exact q.elim
    · exact q.elim
  · split at q
    · rename_i i hl hneg
      cases r2
      obtain ⟨a, xs, rfl, hs, rl⟩ := seqOf_rep S r1 hl
      split at q
      · rename_i v hv
        obtain ⟨z, hz, rz⟩ := atI_rep rl hv
        rcases hs with hs | hs
        · exact .inl (.inl ⟨a, xs, _, z, rfl, rfl, hs, hz, post_here S rz q⟩)
        · exact .inl (.inr (.inl ⟨a, xs, _, z, rfl, rfl, hs, hz, post_here S rz q⟩))
      · exact q.elim
    · split at q
      · rename_i ks vs k hd hk
        obtain ⟨a, xs, rfl, rd, hl, rl⟩ := dicOf_rep S r1 hd
        have ek := keyOf_rep r2 hk
        subst ek
        split at q
        · rename_i v hv
          obtain ⟨z, hz, rz⟩ := (lookD_rep rl hl).1 v hv
          exact .inr ⟨a, z, rfl, .inl ⟨_, _, rd, rfl, hz.symm⟩, post_here S rz q⟩
        · exact q.elim
      · exact q.elim
end

/-! ### slices -/
def cutD (l : List D) (lo hi : Option Int) : List D := (l.drop (HT.sIx l.length 0 lo)).take (HT.sIx l.length l.length hi - HT.sIx l.length 0 lo)
abbrev PSem := Env → List C → R (Option Int)
def pNone : PSem := fun _ m => .ok none m
def pSome (F : ES) : PSem := fun ρ m => (F ρ m).bind fun d m1 => match d with
  | .int i => .ok (some i) m1
  | _ => .no
/-- a slice of a value: of a list a new list, not written later -/
def slD (m : List C) (d : D) (lo hi : Option Int) : R D := match d with
  | .str x => if fits x.length then .ok (.str (cutS x lo hi)) m else .no
  | .tup l => .ok (.tup (cutD l lo hi)) m
  | .scr ns => .ok (.lst (cutD (ns.map D.int) lo hi)) m
  | d => match lstOf m d with
    | some l => .ok (.lst (cutD l lo hi)) m
    | none => .no
def eSl (F : ES) (A B : PSem) : ES := fun ρ m => (F ρ m).bind fun d m1 => (A ρ m1).bind fun lo m2 => (B ρ m2).bind fun hi m3 => slD m3 d lo hi
section
variable {X : Cx} {T : List (Addr × Str)} {W : WX}
structure DP (X : Cx) (T : List (Addr × Str)) (W : WX) (e : Option Expr) (F : PSem) : Prop where
  run : PO X e (tG (fun _ _ a b => b = a) T X.K W F)
theorem dp_none : DP X T W none pNone := ⟨⟨fun pins s σ H Q I ⟨μ, ρ, m, e, st, q⟩ => po_none.run pins s σ H Q I (post_here (rp := fun _ _ a b => b = a) (a := (none : Option Int)) st rfl q)⟩⟩
theorem dp_some {e : Expr} {F : ES} (h : DE X T W e F) : DP X T W (some e) (pSome F) := ⟨⟨fun pins s σ H Q I ⟨μ, ρ, m, er, st, q⟩ => (po_some h.run).run pins s σ H Q I (tG_mk er st (q.bind fun d m1 μ1 H1 v x1 s1 r1 q1 => by
  split at q1
  · cases r1
    exact ⟨_, rfl, post_here (rp := fun _ _ a b => b = a) s1 rfl q1⟩
  · exact q1.elim))⟩⟩
theorem cutD_rep {K : PySem.W.Frag} {μ : List Addr} {H : Hp} {l : List D} {xs : List V} {lo hi : Option Int} (r : RepL K μ H l xs) : RepL K μ H (cutD l lo hi) (cutV xs lo hi) := by
  unfold cutD cutV
  rw [r.length]
  exact (r.drop _).take _
def rSlF (K : PySem.W.Frag) : V → Option Int → Option Int → Hp → VK → Prop := fun x lo hi H Q => ∃ a xs, x = .ref a ∧ SqT K H a xs ∧
  (HT.sIx xs.length 0 lo = 0 ∧ HT.sIx xs.length xs.length hi = xs.length → Q (.ref a) H) ∧ (¬ (HT.sIx xs.length 0 lo = 0 ∧ HT.sIx xs.length xs.length hi = xs.length) → ∀ p o, o.dict = none → H p = none → Q (.ref p) (upd H p (.frz o (.tup (cutV xs lo hi)))))
theorem sl_tupF : SlR X (rSlF X.K) := by
  intro pins s σ H x v vl vu lo hi sl Q I rx hs pl pu h
  obtain ⟨a, xs, rfl, hx, q1, q2⟩ := h
  cases rx
  obtain ⟨its, r, ht, hz⟩ := I.tuple hx
  have hlen : its.toArray.size = xs.length := by rw [List.size_toArray]; exact r.length.symm
  refine ⟨"tuple", _, PyProof.Rows.slot_tuple_getitem.lookup, ht.typeIs, ?_⟩
  by_cases hw : HT.sIx xs.length 0 lo = 0 ∧ HT.sIx xs.length xs.length hi = xs.length
  · exact getItem_tuple_whole ht hs pl pu (by rw [hlen]; exact hw) ⟨.ref a, H, I, rfl, q1 hw⟩
  · refine HT.getItem_tuple_cut ht hs pl pu (by rw [hlen]; exact hw) ?_ (by rw [hlen]; exact hz)
    rw [hlen]
    exact ⟨.ref s.heap.objs.size, _, I.laidT (tk := s.toks) (Nat.le_trans (cutV_length xs lo hi) hz) ((r.drop (HT.sIx xs.length 0 lo)).take (HT.sIx xs.length xs.length hi - HT.sIx xs.length 0 lo)), rfl, q2 hw _ _ rfl (I.hok.fresh (Nat.le_refl _))⟩
def rSlAll (K : PySem.W.Frag) : V → Option Int → Option Int → Hp → VK → Prop := fun x lo hi H Q => rSlS x lo hi H Q ∨ rSlF K x lo hi H Q ∨ rSlL K x lo hi H (FQ Q)
theorem sl_all : SlR X (rSlAll X.K) := sl_str.or (sl_tupF.or sl_list.frz)
theorem slD_ok {σ : L2.St} {μ : List Addr} {H : Hp} {m : List C} {d : D} {x : V} {lo hi : Option Int} {Q : VK} (S : Sto T X.K μ H m) (r : Rep X.K μ H d x) (q : Post (Rep X.K) T X.K W σ μ H (slD m d lo hi) Q) : rSlAll X.K x lo hi H Q := by
  unfold slD at q
  split at q
  · cases r
    split at q
    · rename_i hf
      exact .inl ⟨_, rfl, fits_iff.mp hf, post_here (a := D.str _) S rfl q⟩
    · exact q.elim
  · rename_i l
    obtain ⟨a, xs, rfl, hs, rl⟩ := r
    refine .inr (.inl ⟨a, xs, rfl, hs.sqt, fun hw => ?_, fun _ => post_newT S (cutD_rep rl) q⟩)
    refine post_here (a := D.tup _) S ⟨a, xs, rfl, hs, ?_⟩ q
    unfold cutD
    rw [rl.length, hw.1, hw.2, List.drop_zero, Nat.sub_zero, List.take_of_length_le (by rw [rl.length]; exact Nat.le_refl _)]
    exact rl
  · rename_i ns
    obtain ⟨a, rfl, hk⟩ := r
    have rl : RepL X.K μ H (ns.map D.int) (ns.map V.int) := by
      clear q hk
      induction ns with
      | nil => rfl
      | cons k l ih => exact ⟨_, _, rfl, rfl, ih⟩
    exact .inr (.inr ⟨a, _, rfl, .inr hk, post_newL S (cutD_rep rl) q⟩)
  · split at q
    · rename_i l hl
      obtain ⟨a, xs, rfl, hs, rl⟩ := lstOf_rep S r hl
      exact .inr (.inr ⟨a, xs, rfl, hs, post_newL S (cutD_rep rl) q⟩)
    · exact q.elim
theorem de_slice {e : Expr} {lo hi : Option Expr} {F : ES} {A B : PSem} {p2 pos : Pos} (he : DE X T W e F) (hl : DP X T W lo A) (hu : DP X T W hi B) : DE X T W (.Subscript e (.Slice lo hi none p2) pos) (eSl F A B) :=
  ⟨(pe_slice sl_all he.run hl.run hu.run).weak fun σ H Q ⟨μ, ρ, m, er, s, q⟩ => tG_mk er s (q.bind fun d m1 μ1 H1 x x1 s1 r1 q1 => tG_mk (er.ext x1) s1 (q1.bind fun lo m2 μ2 H2 l2 x2 s2 r2 q2 => tG_mk ((er.ext x1).ext x2) s2 (q2.bind fun hi m3 μ3 H3 l3 x3 s3 r3 q3 => by
    subst r2 r3
    exact slD_ok s3 ((r1.ext x2).ext x3) q3)))⟩
end

/-! ### the type's name -/
def tagOf (m : List C) : D → Option String
  | .non => some "NoneType"
  | .bl _ => some "bool"
  | .int _ => some "int"
  | .str _ => some "str"
  | .tup _ => some "tuple"
  | .lst _ => some "list"
  | .dic _ _ => some "dict"
  | .cell n => match m[n]? with
    | some (.lst _) => some "list"
    | some (.dic _ _) => some "dict"
    | _ => none
  | _ => none
section
variable {T : List (Addr × Str)} {K : PySem.W.Frag} {μ : List Addr} {H : Hp} {m : List C}
theorem tagOf_rep (S : Sto T K μ H m) {d : D} {v : V} {t : String} (r : Rep K μ H d v) (e : tagOf m d = some t) : TyX K H v (.type t) := by
  cases d with
  | non => cases r; cases e; exact .base .non
  | bl b => cases r; cases e; exact .base (.bl b)
  | int b => cases r; cases e; exact .base (.int b)
  | str b => cases r; cases e; exact .base (.str b)
  | tup l =>
    cases e
    obtain ⟨a, xs, rfl, hs, _⟩ := r
    rcases hs with ⟨o, h, _⟩ | ⟨o, its, n, hk, hc, _⟩
    · exact .fTuple h
    · exact .kTuple hk hc
  | lst l =>
    cases e
    obtain ⟨a, xs, rfl, ⟨o, h⟩, _⟩ := r
    exact .base (.frz h)
  | dic l k =>
    cases e
    obtain ⟨a, xs, o, rfl, h, _⟩ := r
    exact .fDict h
  | cell n =>
    obtain ⟨a, ea, rfl⟩ := r
    unfold tagOf at e
    cases hm : m[n]? with
    | none => simp [hm] at e
    | some c =>
      cases c with
      | lst l =>
        simp only [hm, Option.some.injEq] at e
        subst e
        obtain ⟨xs, ex, _⟩ := S.rep n _ a hm ea
        exact .base (.lst ex)
      | dic l k =>
        simp only [hm, Option.some.injEq] at e
        subst e
        obtain ⟨xs, ex, _⟩ := S.rep n _ a hm ea
        exact .base (.dK ex)
      | _ => simp [hm] at e
  | _ => cases e
end
/-- isinstance by names -/
def isTab (t n : String) : Bool := t == n || (t == "bool" && n == "int")
def isNames : List String := ["NoneType", "bool", "int", "str", "tuple", "list", "dict"]
theorem isTab_ok : ∀ t ∈ isNames, ∀ n ∈ isNames.tail, kitB t n = some (isTab t n) := by decide +kernel
def isOk (t n : String) : Bool := isNames.contains t && isNames.tail.contains n
theorem isOk_of {t n : String} (h : isOk t n = true) : kitB t n = some (isTab t n) := by
  unfold isOk at h
  rw [Bool.and_eq_true] at h
  exact isTab_ok t (by simpa using h.1) n (by simpa using h.2)
def tyNames : List D → Option (List String)
  | [] => some []
  | .ty n :: l => (tyNames l).map fun ns => n :: ns
  | _ => none
def isiD : FS := fun ds m => match ds with
  | [x, .ty n] => (match tagOf m x with
    | some t => if isOk t n then .ok (.bl (isTab t n)) m else .no
    | none => .no)
  | [x, .tup l] => (match tagOf m x, tyNames l with
    | some t, some ns => if ns.all (isOk t) then .ok (.bl (ns.any (isTab t))) m else .no
    | _, _ => .no)
  | _ => .no
def rIsiR (K : PySem.W.Frag) : List V → Hp → VK → Prop := fun xs H Q => ∃ (x : V) (tp : Addr) (cs : List V) (t : Value) (us : List Value) (b : Bool), xs = [x, .ref tp] ∧ Rd H tp (.tup cs) ∧ Paired ClsV cs us ∧ TyX K H x t ∧ PySem.W.kitAny K t us = some b ∧ Q (.bl b) H
def rIsiA (K : PySem.W.Frag) : List V → Hp → VK → Prop := fun xs H Q => rIsi K xs H Q ∨ rIsiR K xs H Q ∨ rIsiK K xs H Q
section
variable {X : Cx} {T : List (Addr × Str)}
theorem call_isiR : CallR X (.builtin "isinstance") (rIsiR X.K) := by
  intro pins s σ H xs us Q I r h
  obtain ⟨x, tp, cs, t, ws, b, rfl, hT, k, ty, e, q⟩ := h
  obtain ⟨u1, u2, rfl, r1, r2⟩ := vals2 r
  cases (show u2 = Value.ref tp from r2)
  obtain ⟨P, Z, p, hx⟩ := kit_of I r1 ty
  obtain ⟨_, its, rv, o, h1, h2, n, h3⟩ := (show ObjOk X.prog X.w H s.heap tp (.tup cs) from hT.ok I.hok)
  have e3 := ClsV.all k rv
  subst e3
  obtain ⟨oc, od, dt, sl⟩ := o
  simp only at h2 h3
  subst h2 h3
  exact PySem.W.kia_tup Z I.kIn p h1 e hx fun tk => ⟨.bl b, H, I.tok tk, rfl, q⟩
theorem call_isiA : CallR X (.builtin "isinstance") (rIsiA X.K) := call_isi.or (call_isiR.or call_isiK)
theorem tyNames_rep {K : PySem.W.Frag} {μ : List Addr} {H : Hp} : ∀ {l : List D} {ns : List String} {xs : List V}, RepL K μ H l xs → tyNames l = some ns → xs = ns.map V.ty
  | [], _, _, r, e => by cases e; cases r; rfl
  | .ty n :: l, _, _, r, e => by
    obtain ⟨x, xs, rfl, r1, r2⟩ := r
    cases r1
    unfold tyNames at e
    cases h : tyNames l with
    | none => rw [h] at e; cases e
    | some ns =>
      rw [h] at e
      cases e
      rw [tyNames_rep r2 h]
      rfl
  | .non :: _, _, _, _, e | .bl _ :: _, _, _, _, e | .int _ :: _, _, _, _, e | .str _ :: _, _, _, _, e | .tup _ :: _, _, _, _, e | .tmp _ :: _, _, _, _, e | .lst _ :: _, _, _, _, e | .dic _ _ :: _, _, _, _, e | .ref _ :: _, _, _, _, e | .cell _ :: _, _, _, _, e | .lam _ _ _ _ _ :: _, _, _, _, e | .scr _ :: _, _, _, _, e | .err _ _ _ :: _, _, _, _, e => by cases e
theorem kitAny_names {K : PySem.W.Frag} {t : String} : ∀ {ns : List String}, ns.all (isOk t) = true → PySem.W.kitAny K (.type t) (ns.map Value.type) = some (ns.any (isTab t))
  | [], _ => kitAny_nil
  | n :: ns, h => by
    rw [List.all_cons, Bool.and_eq_true] at h
    have ih := kitAny_names (K := K) h.2
    rw [List.map_cons, List.any_cons]
    refine kitAny_cons (kit_ty (isOk_of h.1)) (fun e => ?_) (fun e => by rw [e, Bool.true_or])
    rw [e, Bool.false_or]
    exact ih
theorem clsV_names : ∀ ns : List String, Paired ClsV (ns.map V.ty) (ns.map Value.type)
  | [] => .nil
  | n :: ns => .cons (.ty n) (clsV_names ns)
theorem isiD_ok : ArD X T isiD (rIsiA X.K) := by
  intro W σ μ H m ds xs Q S r q
  unfold isiD at q
  split at q
  · rename_i x n
    obtain ⟨v, u, rfl, r1, r2⟩ := repL2 r
    cases r2
    split at q
    · rename_i t ht
      split at q
      · rename_i ho
        exact .inl ⟨v, .ty n, .type t, .type n, _, rfl, .ty n, tagOf_rep S r1 ht, kit_ty (isOk_of ho), post_here (a := D.bl _) S rfl q⟩
      · exact q.elim
    · exact q.elim
  · rename_i x l
    obtain ⟨v, u, rfl, r1, a, ys, rfl, hs, rl⟩ := repL2 r
    split at q
    · rename_i t ns ht hn
      split at q
      · rename_i ho
        have ey := tyNames_rep rl hn
        subst ey
        rcases hs with ⟨o, h, _⟩ | ⟨o, its, n, hk, hc, _, hd, hz, rv⟩
        · exact .inr (.inl ⟨v, a, _, .type t, _, _, rfl, .inr ⟨o, h⟩, clsV_names ns, tagOf_rep S r1 ht, kitAny_names ho, post_here (a := D.bl _) S rfl q⟩)
        · have ei : its.toList = ns.map Value.type := ClsV.all (clsV_names ns) rv
          obtain ⟨oc, od, dt, sl⟩ := o
          simp only at hc hd
          subst hc hd
          have e2 : its = (ns.map Value.type).toArray := by rw [← ei]
          subst e2
          exact .inr (.inr ⟨v, a, od, _, n, sl, .type t, _, rfl, hk, tagOf_rep S r1 ht, kitAny_names ho, post_here (a := D.bl _) S rfl q⟩)
      · exact q.elim
    · exact q.elim
  · exact q.elim
end
end DL


/-! DLh: freezing cells, stores, methods, built-in functions. -/
namespace DL
open PySem PySem.Spec L2
open PyProof.Rows hiding St

/-! ### a cell that is not written any more -/
def frzR (d : D) (m : List C) : R D := match d with
  | .cell n => (match m[n]? with
    | some (.lst l) => .ok (.lst l) (m.set n .dead)
    | some (.dic ks vs) => .ok (.dic ks vs) (m.set n .dead)
    | _ => .no)
  | d => .ok d m
def eFrz (F : ES) : ES := fun ρ m => (F ρ m).bind frzR
section
variable {X : Cx} {T : List (Addr × Str)} {W : WX}
theorem frzR_ok {σ : L2.St} {μ : List Addr} {H : Hp} {m : List C} {d : D} {x : V} {Q : VK} (S : Sto T X.K μ H m) (r : Rep X.K μ H d x) (q : Post (Rep X.K) T X.K W σ μ H (frzR d m) Q) : FQ Q x H := by
  unfold frzR at q
  split at q
  · rename_i n
    obtain ⟨a, ea, rfl⟩ := r
    split at q
    · rename_i l hm
      obtain ⟨xs, ex, rl⟩ := S.rep n _ a hm ea
      refine .inr ⟨a, _, rfl, ex, trivial, fun od => ?_⟩
      have hc : Celled (H a) := by rw [ex]; trivial
      have x1 : Ext μ H μ (upd H a (.frz od (.lst xs))) := .mut (List.mem_of_getElem? ea) hc
      exact q μ _ _ x1 (S.set ea hc ⟨_, upd_same, fun _ z => by cases z⟩) ⟨a, xs, rfl, ⟨od, upd_same⟩, rl.ext x1⟩
    · rename_i ks vs hm
      obtain ⟨xs, ex, hl, rl⟩ := S.rep n _ a hm ea
      refine .inr ⟨a, _, rfl, ex, trivial, fun od => ?_⟩
      have hc : Celled (H a) := by rw [ex]; trivial
      have x1 : Ext μ H μ (upd H a (.frz od (.dK (ks.zip xs)))) := .mut (List.mem_of_getElem? ea) hc
      exact q μ _ _ x1 (S.set ea hc ⟨_, upd_same, fun _ z => by cases z⟩) ⟨a, xs, od, rfl, upd_same, hl, rl.ext x1⟩
    · exact q.elim
  · exact .inl (post_here S r q)
theorem de_frz {e : Expr} {F : ES} (h : DE X T W e F) : DE X T W e (eFrz F) := ⟨(pe_frz h.run).weak fun σ H Q ⟨μ, ρ, m, er, s, q⟩ => tG_mk er s (q.bind fun d m1 μ1 H1 x x1 s1 r1 q1 => frzR_ok s1 r1 q1)⟩
end

/-! ### stores -/
/-- o[i] = v -/
def setD (o i v : D) (m : List C) : Option (List C) := match o with
  | .cell n => (match m[n]?, i with
    | some (.lst l), .int k => (ixN l.length k).map fun j => m.set n (.lst (l.set j v))
    | some (.dic ks vs), i => (match keyOf i with
      | some k => if fits (ks.length + 1) then some (m.set n (.dic (putD ks vs k v).1 (putD ks vs k v).2)) else none
      | none => none)
    | _, _ => none)
  | _ => none
def RS.optM (o : Option (List C)) (k : List C → RS) : RS := match o with
  | some m => k m
  | none => .no
@[simp] theorem RS.optM_some (m : List C) (k : List C → RS) : RS.optM (some m) k = k m := rfl
@[simp] theorem RS.optM_none (k : List C → RS) : RS.optM none k = .no := rfl
/-- o[i] = v as a statement: first the value -/
def sSub (Fo Fi Fv : ES) : SS := fun ρ m => (Fv ρ m).go ρ fun v m1 => (Fo ρ m1).go ρ fun o m2 => (Fi ρ m2).go ρ fun i m3 => RS.optM (setD o i v m3) fun m4 => .nx ρ m4
def rSetA : TSet := fun o i v H Q => rSetL o i v H Q ∨ ∃ a H', o = .ref a ∧ DPut H a i v H' ∧ Q H'
section
variable {X : Cx} {T : List (Addr × Str)} {W : WX}
theorem set_A (hu : X.A.units + 1 < cLine) : PSet X rSetA := by
  intro pins s σ H o i v ov iv u Q I ro ri rv h
  rcases h with h | ⟨a, H', rfl, g, q⟩
  · exact set_list pins s σ H o i v ov iv u Q I ro ri rv h
  · cases ro
    exact d_setItem hu I g ri rv fun s' I' => ⟨H', I', q⟩
/-- a cell with new contents -/
theorem Post.cellL {K : PySem.W.Frag} {μ : List Addr} {H : Hp} {m : List C} {n : Nat} {a : Addr} {l : List D} {xs : List V} (S : Sto T K μ H m) (ea : μ[n]? = some a) (hc : Celled (H a)) (r : RepL K μ H l xs) :
    Ext μ H μ (upd H a (.lst xs)) ∧ Sto T K μ (upd H a (.lst xs)) (m.set n (.lst l)) := by
  have x1 : Ext μ H μ (upd H a (.lst xs)) := .mut (List.mem_of_getElem? ea) hc
  exact ⟨x1, S.set ea hc ⟨xs, upd_same, r.ext x1⟩⟩
theorem Post.cellD {K : PySem.W.Frag} {μ : List Addr} {H : Hp} {m : List C} {n : Nat} {a : Addr} {ks : List Key} {l : List D} {xs : List V} (S : Sto T K μ H m) (ea : μ[n]? = some a) (hc : Celled (H a)) (hl : ks.length = l.length) (r : RepL K μ H l xs) :
    Ext μ H μ (upd H a (.dK (ks.zip xs))) ∧ Sto T K μ (upd H a (.dK (ks.zip xs))) (m.set n (.dic ks l)) := by
  have x1 : Ext μ H μ (upd H a (.dK (ks.zip xs))) := .mut (List.mem_of_getElem? ea) hc
  exact ⟨x1, S.set ea hc ⟨xs, upd_same, hl, r.ext x1⟩⟩
theorem setD_ok {μ : List Addr} {H : Hp} {m m' : List C} {o i v : D} {x y z : V} {Q : Hp → Prop} (S : Sto T X.K μ H m) (ro : Rep X.K μ H o x) (ri : Rep X.K μ H i y) (rv : Rep X.K μ H v z) (e : setD o i v m = some m')
    (q : ∀ H', Ext μ H μ H' → Sto T X.K μ H' m' → Q H') : rSetA x y z H Q := by
  unfold setD at e
  split at e
  · rename_i n
    obtain ⟨a, ea, rfl⟩ := ro
    split at e
    · rename_i l k hm
      cases ri
      obtain ⟨xs, ex, rl⟩ := S.rep n _ a hm ea
      cases hj : ixN l.length k with
      | none => rw [hj] at e; cases e
      | some j =>
        rw [hj] at e
        cases e
        have hc : Celled (H a) := by rw [ex]; trivial
        obtain ⟨x1, s1⟩ := Post.cellL S ea hc (rl.set j rv)
        exact .inl ⟨a, xs, k, j, rfl, rfl, ex, by rw [← rl.length]; exact hj, q _ x1 s1⟩
    · rename_i ks vs hm
      obtain ⟨xs, ex, hl, rl⟩ := S.rep n _ a hm ea
      split at e
      · rename_i k hk
        split at e
        · rename_i hf
          cases e
          have ek := keyOf_rep ri hk
          subst ek
          obtain ⟨ys, e1, r1, l1⟩ := putD_rep rl hl rv
          have hc : Celled (H a) := by rw [ex]; trivial
          obtain ⟨x1, s1⟩ := Post.cellD S ea hc l1 r1
          refine .inr ⟨a, _, rfl, .inl ⟨_, k, ex, rfl, ?_, rfl⟩, ?_⟩
          · rw [List.length_zip, ← rl.length, ← hl, Nat.min_self]
            exact fits_iff.mp hf
          · rw [e1]
            exact q _ x1 s1
        · cases e
      · cases e
    · cases e
  · cases e
theorem ds_subS {o i value : Expr} {Fo Fi Fv : ES} {tpos pos : Pos} (hu : X.A.units + 1 < cLine) (ho : DE X T W o Fo) (hi : DE X T W i Fi) (hv : DE X T W value Fv) (hs : swapsWithSole [.Subscript o i tpos] value pos.line X.env = pure false := by rfl) (hw : swappedStores [.Subscript o i tpos] value X.env = pure none := by rfl)
    (hx : ∀ v, assign (.Subscript o i tpos) X.env v = (do
      let ov ← holding [v] (eval o X.env)
      let iv ← holding [v, ov] (eval i X.env)
      standAt tpos
      holding [v, ov, iv] (setItem ov iv v)
      release [v, ov, iv] []) := by intro _; rfl) : DS X T W (.Assign [.Subscript o i tpos] value pos) (sSub Fo Fi Fv) :=
  ⟨(ps_asg hv.run (pg_sub ho.run hi.run (set_A hu) hx) hs hw).weak fun Z σ H ⟨μ, ρ, m, er, s, q⟩ => tG_mk er s (q.go er fun v m1 μ1 H1 z x1 s1 r1 q1 => tG_mk (er.ext x1) s1 (q1.go (er.ext x1) fun o m2 μ2 H2 x x2 s2 r2 q2 => tG_mk ((er.ext x1).ext x2) s2 (q2.go ((er.ext x1).ext x2) fun i m3 μ3 H3 y x3 s3 r3 q3 => by
    cases e : setD o i v m3 with
    | none => rw [e] at q3; exact q3.elim
    | some m4 =>
      rw [e] at q3
      exact setD_ok s3 (r2.ext x3) r3 ((r1.ext x2).ext x3) e fun H' x4 s4 => (PostS.ext x4 q3).nx_here s4 ((((er.ext x1).ext x2).ext x3).ext x4))))⟩
/-- x op= e -/
def sAug (i : Nat) (f : D → D → List C → R D) (F : ES) : SS := fun ρ m => match ρ[i]? with
  | some (some d) => (F ρ m).go ρ fun e m1 => (f d e m1).go ρ fun z m2 => .nx (ρ.set i (some z)) m2
  | _ => .no
theorem ds_aug {i : Nat} {x : Str} {e : Expr} {F : ES} {op : Operator} {f : D → D → List C → R D} {r : R2} {pos' pos : Pos} (ho : OpR X (inplaceOp op) r) (hf : OpD X T f r) (hN : X.N.Nodup) (hi : X.N[i]? = some x) (hx : Loc X.env.scope x) (he : DE X T W e F)
    (hfn : X.fn x = true ∨ X.env.scope.names.lookup x = some .local := by first | exact .inl rfl | exact .inr rfl | assumption) : DS X T W (.AugAssign (.Name x pos') op e pos) (sAug i f F) :=
  ⟨(ps_aug hN hi hx he.run (ti := r) (fun pins s σ H x y v u Q I rx ry q => ho pins s σ H x y v u Q I rx ry q) hfn).weak fun Z σ H ⟨μ, ρ, m, er, s, q⟩ => by
    unfold sAug at q
    split at q
    · rename_i d hd
      obtain ⟨v, hv, rv⟩ := er.get i d hd
      exact ⟨v, hv, tG_mk er s (q.go er fun e m1 μ1 H1 y x1 s1 r1 q1 => hf W σ μ1 H1 m1 d e v y _ s1 (rv.ext x1) r1 (q1.go (er.ext x1) fun z m2 μ2 H2 w x2 s2 r2 q2 => q2.nx_here s2 (((er.ext x1).ext x2).set r2)))⟩
    · exact q.elim⟩
end

/-! ### methods of built-in types -/
def MtD (X : Cx) (T : List (Addr × Str)) (f : D → List D → List C → R D) (r : V → List V → Hp → VK → Prop) : Prop := ∀ (W : WX) (σ : L2.St) (μ : List Addr) (H : Hp) (m : List C) (d : D) (ds : List D) (x : V) (xs : List V) (Q : VK),
  Sto T X.K μ H m → Rep X.K μ H d x → RepL X.K μ H ds xs → Post (Rep X.K) T X.K W σ μ H (f d ds m) Q → r x xs H Q
/-- o.m(..), o of the type t -/
def eMt (t : String) (f : D → List D → List C → R D) (F : ES) (G : LS) : ES := fun ρ m => (F ρ m).bind fun d m1 => if tagOf m1 d = some t then (G ρ m1).bind fun ds m2 => f d ds m2 else .no
def TyM (K : PySem.W.Frag) (t : String) (x : V) (H : Hp) : Prop := tyV K t x H ∨ (t = "dict" ∧ ∃ a kvs, x = .ref a ∧ Rd H a (.dK kvs))
def mtTypes : List String := ["str", "int", "list", "dict"]
section
variable {X : Cx} {T : List (Addr × Str)} {W : WX}
theorem tyM_is {pins : List (Addr × Obj)} {σ : L2.St} {H : Hp} {s : Shared} {t : String} {x : V} {v : Value} (I : Inv X pins σ H s) (r : RelV x v) (ty : TyM X.K t x H) : s.TypeIs v t ∧ ∀ a, v = .ref a → ∃ ob, s.heap.get? a = some ob ∧ ob.dict = none := by
  rcases ty with h | ⟨rfl, a, kvs, rfl, h⟩
  · exact tyV_is I r h
  · cases r
    obtain ⟨h1, h2, _⟩ := isD_at I (.inl ⟨kvs, h⟩)
    exact ⟨h1, h2⟩
theorem tyM_of {K : PySem.W.Frag} {μ : List Addr} {H : Hp} {m : List C} {d : D} {v : V} {t : String} (S : Sto T K μ H m) (r : Rep K μ H d v) (e : tagOf m d = some t) (ht : t ∈ mtTypes) : TyM K t v H := by
  cases d with
  | int i => cases r; cases e; exact .inl rfl
  | str i => cases r; cases e; exact .inl rfl
  | lst l =>
    cases e
    obtain ⟨a, xs, rfl, h, _⟩ := r
    exact .inl (.inl ⟨rfl, xs, h.sql⟩)
  | dic ks vs =>
    cases e
    obtain ⟨a, xs, o, rfl, h, _⟩ := r
    exact .inr ⟨rfl, a, _, rfl, .inr ⟨o, h⟩⟩
  | cell n =>
    obtain ⟨a, ea, rfl⟩ := r
    unfold tagOf at e
    cases hm : m[n]? with
    | none => simp [hm] at e
    | some c =>
      cases c with
      | lst l =>
        simp only [hm, Option.some.injEq] at e
        subst e
        obtain ⟨xs, ex, _⟩ := S.rep n _ a hm ea
        exact .inl (.inl ⟨rfl, xs, SqL.of ex⟩)
      | dic l k =>
        simp only [hm, Option.some.injEq] at e
        subst e
        obtain ⟨xs, ex, _⟩ := S.rep n _ a hm ea
        exact .inr ⟨rfl, a, _, rfl, .inl ex⟩
      | _ => simp [hm] at e
  | non => cases e; simp [mtTypes] at ht
  | bl _ => cases e; simp [mtTypes] at ht
  | tup _ => cases e; simp [mtTypes] at ht
  | _ => cases e
variable {o e : Expr} {es : List Expr} {to : TE} {ta : TA} {name : Str} {apos cpos : Pos} {t id : String} {r : V → List V → Hp → VK → Prop} {F : ES} {G : LS} {f : D → List D → List C → R D}
def tMt (K : PySem.W.Frag) (t : String) (r : V → List V → Hp → VK → Prop) (to : TE) (ta : TA) : TE := fun σ H Q => to σ H fun x H1 => TyM K t x H1 ∧ ta σ H1 fun xs H2 => r x xs H2 Q
theorem pe_mt0 (pa : PlainAttrs t) (slot : Slot t name id) (hty : typeOf (.builtin id) = pure (.type "method_descriptor")) (hm : MtR X id r) (ho : PE X o to)
    (hbase : attributeBase o name X.env (eval o X.env) = eval o X.env := by rfl) (hline : (apos.endLine == cpos.line) = true := by rfl) : PE X (.Call (.Attribute o name apos) [] [] cpos) (tMt X.K t r to tNil) := by
  refine ⟨fun pins s σ H Q I h => ?_⟩
  refine wpAny_Call_method0_late hbase hline (thn (ho.run pins s σ H _ I h) fun v s1 ⟨x, H1, I1, r1, ty, q1⟩ => ?_)
  obtain ⟨h1, h2⟩ := tyM_is I1 r1 ty
  exact ⟨t, id, pa, slot, hty, h1, h2, Calls.callWith_builtin rfl (PySem.evalArgs_none (hm pins s1 σ H1 x [] v [] Q I1 r1 .nil q1))⟩
theorem pe_mt (pa : PlainAttrs t) (slot : Slot t name id) (hty : typeOf (.builtin id) = pure (.type "method_descriptor")) (hm : MtR X id r) (ho : PE X o to) (ha : PA X (e :: es) ta)
    (hbase : attributeBase o name X.env (eval o X.env) = eval o X.env := by rfl)
    (hfew : ((backTo cpos (starEach (e :: es) X.env)).all (fun x => !x.1) && (backToKw cpos (keywordEach [] X.env)).all (fun x => x.1.isSome)
      && decide ((e :: es).length + ([] : List Keyword).length + (if ([] : List Keyword).isEmpty then 0 else 1) < 30)) = true := by rfl)
    (hline : (apos.endLine == cpos.line) = true := by rfl) (hs : starEach (e :: es) X.env = (false, eval e X.env) :: starEach es X.env := by rfl) (hplain : (backTo cpos (starEach es X.env)).any (·.1) = false := by rfl) :
    PE X (.Call (.Attribute o name apos) (e :: es) [] cpos) (tMt X.K t r to ta) := by
  refine ⟨fun pins s σ H Q I h => ?_⟩
  refine wpAny_Call_method_late hbase hfew hline rfl (thn (ho.run pins s σ H _ I h) fun v s1 ⟨x, H1, I1, r1, ty, q1⟩ => ?_)
  obtain ⟨h1, h2⟩ := tyM_is I1 r1 ty
  refine ⟨t, id, pa, slot, hty, h1, h2, ?_⟩
  have hA := ha.run cpos pins s1 σ H1 _ I1 q1
  rw [hs] at hA ⊢
  refine Calls.callWith_builtin (by show (false || (backTo cpos (starEach es X.env)).any (·.1)) = false; rw [hplain] <;> rfl) (Calls.evalArgs_plain ?_)
  exact thn hA fun us s2 ⟨vs, H2, I2, r2, q2⟩ => hm pins s2 σ H2 x vs v us Q I2 r1 r2 q2
theorem tMt_D (ht : t ∈ mtTypes) (hf : MtD X T f r) (ho : DE X T W o F) (ha : ∀ σ H Q, tG (RepL X.K) T X.K W G σ H Q → ta σ H Q) : ∀ σ H Q, tG (Rep X.K) T X.K W (eMt t f F G) σ H Q → tMt X.K t r (tG (Rep X.K) T X.K W F) ta σ H Q :=
  fun σ H Q ⟨μ, ρ, m, er, s, q⟩ => tG_mk er s (q.bind fun d m1 μ1 H1 x x1 s1 r1 q1 => by
    split at q1
    · rename_i hg
      exact ⟨tyM_of s1 r1 hg ht, ha _ _ _ (tG_mk (er.ext x1) s1 (q1.bind fun ds m2 μ2 H2 xs x2 s2 r2 q2 => hf W σ μ2 H2 m2 d ds x xs Q s2 (r1.ext x2) r2 q2))⟩
    · exact q1.elim)
theorem de_mt0 (pa : PlainAttrs t) (slot : Slot t name id) (hty : typeOf (.builtin id) = pure (.type "method_descriptor")) (hm : MtR X id r) (hf : MtD X T f r) (ho : DE X T W o F) (ht : t ∈ mtTypes := by decide)
    (hbase : attributeBase o name X.env (eval o X.env) = eval o X.env := by rfl) (hline : (apos.endLine == cpos.line) = true := by rfl) : DE X T W (.Call (.Attribute o name apos) [] [] cpos) (eMt t f F aNil) :=
  ⟨(pe_mt0 pa slot hty hm ho.run hbase hline).weak (tMt_D ht hf ho fun σ H Q ⟨μ, ρ, m, er, s, q⟩ => post_here (rp := RepL X.K) (a := []) s rfl q)⟩
theorem de_mt (pa : PlainAttrs t) (slot : Slot t name id) (hty : typeOf (.builtin id) = pure (.type "method_descriptor")) (hm : MtR X id r) (hf : MtD X T f r) (ho : DE X T W o F) (ha : DA X T W (e :: es) G) (ht : t ∈ mtTypes := by decide)
    (hbase : attributeBase o name X.env (eval o X.env) = eval o X.env := by rfl)
    (hfew : ((backTo cpos (starEach (e :: es) X.env)).all (fun x => !x.1) && (backToKw cpos (keywordEach [] X.env)).all (fun x => x.1.isSome)
      && decide ((e :: es).length + ([] : List Keyword).length + (if ([] : List Keyword).isEmpty then 0 else 1) < 30)) = true := by rfl)
    (hline : (apos.endLine == cpos.line) = true := by rfl) (hs : starEach (e :: es) X.env = (false, eval e X.env) :: starEach es X.env := by rfl) (hplain : (backTo cpos (starEach es X.env)).any (·.1) = false := by rfl) :
    DE X T W (.Call (.Attribute o name apos) (e :: es) [] cpos) (eMt t f F G) := ⟨(pe_mt pa slot hty hm ho.run ha.run hbase hfew hline hs hplain).weak (tMt_D ht hf ho fun _ _ _ h => h)⟩
end

/-! ### the methods -/
/-- l.append(x) -/
def appendD : D → List D → List C → R D := fun d ds m => match d, ds with
  | .cell n, [x] => (match m[n]? with
    | some (.lst l) => if fits (l.length + 1) then .ok .non (m.set n (.lst (l ++ [x]))) else .no
    | _ => .no)
  | _, _ => .no
section
variable {X : Cx} {T : List (Addr × Str)} {W : WX}
theorem appendD_ok : MtD X T appendD rAppend := by
  intro W σ μ H m d ds x xs Q S r rs q
  unfold appendD at q
  split at q
  · rename_i n y
    obtain ⟨a, ea, rfl⟩ := r
    obtain ⟨z, rfl, rz⟩ := repL1 rs
    split at q
    · rename_i l hm
      split at q
      · rename_i hf
        obtain ⟨ys, ex, rl⟩ := S.rep n _ a hm ea
        have hc : Celled (H a) := by rw [ex]; trivial
        obtain ⟨x1, s1⟩ := Post.cellL S ea hc (rl.append (.cons rz .nil))
        refine ⟨a, ys, z, rfl, rfl, ex, ?_, q μ _ .non x1 s1 rfl⟩
        rw [← rl.length]
        exact fits_iff.mp hf
      · exact q.elim
    · exact q.elim
  · exact q.elim
end
/-! ### built-in functions -/
def lenD : FS := fun ds m => match ds with
  | [d] => (match d with
    | .str x => if fits x.length then .ok (.int x.length) m else .no
    | d => match seqOf m d with
      | some l => .ok (.int l.length) m
      | none => match dicOf m d with
        | some (ks, _) => .ok (.int ks.length) m
        | none => .no)
  | _ => .no
def rLenA (K : PySem.W.Frag) : List V → Hp → VK → Prop := fun xs H Q => (∃ p ys, xs = [.ref p] ∧ (SqL K H p ys ∨ SqT K H p ys) ∧ Q (.int ys.length) H) ∨ (∃ z, xs = [.str z] ∧ z.length ≤ sizeLine ∧ Q (.int z.length) H) ∨ ∃ a kvs, xs = [V.ref a] ∧ Rd H a (.dK kvs) ∧ Q (.int kvs.length) H
def absD : FS := fun ds m => match ds with
  | [.int i] => .ok (.int (if i < 0 then -i else i)) m
  | _ => .no
def intD : FS := fun ds m => match ds with
  | [.int i] => .ok (.int i) m
  | [.bl b] => .ok (.int (if b then 1 else 0)) m
  | _ => .no
def strOk (i : Int) : Bool := decide (i.natAbs.log2 < 1920)
def strD : FS := fun ds m => match ds with
  | [.int i] => if strOk i then .ok (.str (toString i)) m else .no
  | _ => .no
def max2D : FS := fun ds m => match ds with
  | [.int i, .int j] => .ok (.int (if j > i then j else i)) m
  | _ => .no
def min2D : FS := fun ds m => match ds with
  | [.int i, .int j] => .ok (.int (if j < i then j else i)) m
  | _ => .no
/-- tuple(l) -/
def tupleD : FS := fun ds m => match ds with
  | [d] => (match d with
    | .tup l => .ok (.tup l) m
    | d => match lstOf m d with
      | some l => .ok (.tup l) m
      | none => .no)
  | _ => .no
/-- list(l), not written later -/
def listD : FS := fun ds m => match ds with
  | [d] => (match seqOf m d with
    | some l => .ok (.lst l) m
    | none => .no)
  | _ => .no
def bools : List D → Option (List Bool)
  | [] => some []
  | .bl b :: l => (bools l).map fun bs => b :: bs
  | _ => none
def allD : FS := fun ds m => match ds with
  | [d] => (match (lstOf m d).bind bools with
    | some bs => .ok (.bl (bs.all id)) m
    | none => .no)
  | _ => .no
def anyD : FS := fun ds m => match ds with
  | [d] => (match (lstOf m d).bind bools with
    | some bs => .ok (.bl (bs.any id)) m
    | none => .no)
  | _ => .no
section
variable {X : Cx} {T : List (Addr × Str)}
theorem call_lenR : CallR X (.builtin "len") (fun xs H Q => ∃ a kvs, xs = [V.ref a] ∧ Rd H a (.dK kvs) ∧ Q (.int kvs.length) H) := by
  intro pins s σ H xs us Q I r h
  obtain ⟨a, kvs, rfl, ha, q⟩ := h
  obtain ⟨u, rfl, ru⟩ := vals1 r
  cases ru
  exact d_len I ha fun t s' I' => ⟨.int kvs.length, H, I', ⟨t, rfl⟩, q⟩
theorem call_lenA : CallR X (.builtin "len") (rLenA X.K) := call_len_seq.or (call_len_str.or call_lenR)
theorem lenD_ok : ArD X T lenD (rLenA X.K) := by
  intro W σ μ H m ds xs Q S r q
  unfold lenD at q
  split at q
  · obtain ⟨v, rfl, r1⟩ := repL1 r
    split at q
    · cases r1
      split at q
      · rename_i hf
        exact .inr (.inl ⟨_, rfl, fits_iff.mp hf, post_here (a := D.int _) S rfl q⟩)
      · exact q.elim
    · split at q
      · rename_i l hl
        obtain ⟨a, ys, rfl, hs, rl⟩ := seqOf_rep S r1 hl
        rw [rl.length] at q
        exact .inl ⟨a, ys, rfl, hs, post_here (a := D.int _) S rfl q⟩
      · split at q
        · rename_i ks vs hd
          obtain ⟨a, ys, rfl, rd, hl, rl⟩ := dicOf_rep S r1 hd
          refine .inr (.inr ⟨a, _, rfl, rd, ?_⟩)
          rw [List.length_zip, ← rl.length, ← hl, Nat.min_self]
          exact post_here (a := D.int _) S rfl q
        · exact q.elim
  · exact q.elim
theorem absD_ok : ArD X T absD (fun xs H Q => ∃ i, xs = [.int i] ∧ Q (.int (if i < 0 then -i else i)) H) := by
  intro W σ μ H m ds xs Q S r q
  unfold absD at q
  split at q
  · obtain ⟨v, rfl, r1⟩ := repL1 r
    cases r1
    exact ⟨_, rfl, post_here (a := D.int _) S rfl q⟩
  · exact q.elim
theorem intD_ok : ArD X T intD (fun xs H Q => (∃ i, xs = [.int i] ∧ Q (.int i) H) ∨ ∃ k, xs = [.bl k] ∧ Q (.int (if k then 1 else 0)) H) := by
  intro W σ μ H m ds xs Q S r q
  unfold intD at q
  split at q
  · obtain ⟨v, rfl, r1⟩ := repL1 r
    cases r1
    exact .inl ⟨_, rfl, post_here (a := D.int _) S rfl q⟩
  · obtain ⟨v, rfl, r1⟩ := repL1 r
    cases r1
    exact .inr ⟨_, rfl, post_here (a := D.int _) S rfl q⟩
  · exact q.elim
theorem strD_ok : ArD X T strD (fun xs H Q => ∃ i : Int, xs = [.int i] ∧ i.natAbs.log2 < 1920 ∧ Q (.str (toString i)) H) := by
  intro W σ μ H m ds xs Q S r q
  unfold strD at q
  split at q
  · obtain ⟨v, rfl, r1⟩ := repL1 r
    cases r1
    split at q
    · rename_i h
      unfold strOk at h
      rw [decide_eq_true_eq] at h
      exact ⟨_, rfl, h, post_here (a := D.str _) S rfl q⟩
    · exact q.elim
  · exact q.elim
theorem max2D_ok : ArD X T max2D (fun xs H Q => ∃ i j, xs = [.int i, .int j] ∧ Q (.int (if j > i then j else i)) H) := by
  intro W σ μ H m ds xs Q S r q
  unfold max2D at q
  split at q
  · obtain ⟨v, u, rfl, r1, r2⟩ := repL2 r
    cases r1; cases r2
    exact ⟨_, _, rfl, post_here (a := D.int _) S rfl q⟩
  · exact q.elim
theorem min2D_ok : ArD X T min2D (fun xs H Q => ∃ i j, xs = [.int i, .int j] ∧ Q (.int (if j < i then j else i)) H) := by
  intro W σ μ H m ds xs Q S r q
  unfold min2D at q
  split at q
  · obtain ⟨v, u, rfl, r1, r2⟩ := repL2 r
    cases r1; cases r2
    exact ⟨_, _, rfl, post_here (a := D.int _) S rfl q⟩
  · exact q.elim
def rTupF (K : PySem.W.Frag) : List V → Hp → VK → Prop := fun xs H Q => ∃ p ys, xs = [.ref p] ∧ ((SqL K H p ys ∧ ∀ l o, o.dict = none → H l = none → Q (.ref l) (upd H l (.frz o (.tup ys)))) ∨ (SqT K H p ys ∧ Q (.ref p) H))
theorem call_tupleF : CallR X (.type "tuple") (rTupF X.K) := by
  intro pins s σ H xs us Q I r h
  obtain ⟨p, ys, rfl, h⟩ := h
  obtain ⟨u, rfl, rx⟩ := vals1 r
  cases rx
  rcases h with ⟨hq, q⟩ | ⟨hq, q⟩
  · obtain ⟨its, r', pl, hz⟩ := I.list hq
    have hlen := r'.length
    refine call_tuple_list pl.isList (fun h' kp => ?_) (by simp only [List.size_toArray] <;> omega)
    have I1 : Inv X pins σ H { s with heap := h' } := I.kept (t' := s.toks) kp
    exact ⟨.ref h'.objs.size, _, I1.laidT (tk := s.toks) hz r', rfl, q _ _ rfl (I1.hok.fresh (Nat.le_refl _))⟩
  · obtain ⟨its, r', pl, hz⟩ := I.tuple hq
    exact call_tuple_same pl ⟨.ref p, H, I, rfl, q⟩
theorem tupleD_ok : ArD X T tupleD (rTupF X.K) := by
  intro W σ μ H m ds xs Q S r q
  unfold tupleD at q
  split at q
  · obtain ⟨v, rfl, r1⟩ := repL1 r
    split at q
    · obtain ⟨a, ys, rfl, hs, rl⟩ := r1
      exact ⟨a, ys, rfl, .inr ⟨hs.sqt, post_here (a := D.tup _) S ⟨a, ys, rfl, hs, rl⟩ q⟩⟩
    · split at q
      · rename_i l hl
        obtain ⟨a, ys, rfl, hs, rl⟩ := lstOf_rep S r1 hl
        exact ⟨a, ys, rfl, .inl ⟨hs, post_newT S rl q⟩⟩
      · exact q.elim
  · exact q.elim
theorem listD_ok : ArD X T listD (fun xs H Q => ∃ p ys, xs = [.ref p] ∧ (SqL X.K H p ys ∨ SqT X.K H p ys) ∧ ∀ l, H l = none → FQ Q (.ref l) (upd H l (.lst ys))) := by
  intro W σ μ H m ds xs Q S r q
  unfold listD at q
  split at q
  · obtain ⟨v, rfl, r1⟩ := repL1 r
    split at q
    · rename_i l hl
      obtain ⟨a, ys, rfl, hs, rl⟩ := seqOf_rep S r1 hl
      exact ⟨a, ys, rfl, hs, post_newL S rl q⟩
    · exact q.elim
  · exact q.elim
theorem bools_rep {K : PySem.W.Frag} {μ : List Addr} {H : Hp} : ∀ {l : List D} {bs : List Bool} {xs : List V}, RepL K μ H l xs → bools l = some bs → xs = bs.map V.bl
  | [], _, _, r, e => by cases e; cases r; rfl
  | .bl n :: l, _, _, r, e => by
    obtain ⟨x, xs, rfl, r1, r2⟩ := r
    cases r1
    unfold bools at e
    cases h : bools l with
    | none => rw [h] at e; cases e
    | some ns =>
      rw [h] at e
      cases e
      rw [bools_rep r2 h]
      rfl
  | .non :: _, _, _, _, e | .ty _ :: _, _, _, _, e | .int _ :: _, _, _, _, e | .str _ :: _, _, _, _, e | .tup _ :: _, _, _, _, e | .tmp _ :: _, _, _, _, e | .lst _ :: _, _, _, _, e | .dic _ _ :: _, _, _, _, e | .ref _ :: _, _, _, _, e | .cell _ :: _, _, _, _, e | .lam _ _ _ _ _ :: _, _, _, _, e | .scr _ :: _, _, _, _, e | .err _ _ _ :: _, _, _, _, e => by cases e
theorem allD_ok : ArD X T allD (rAll X.K) := by
  intro W σ μ H m ds xs Q S r q
  unfold allD at q
  split at q
  · obtain ⟨v, rfl, r1⟩ := repL1 r
    split at q
    · rename_i bs hb
      obtain ⟨l, hl, hbs⟩ := Option.bind_eq_some_iff.mp hb
      obtain ⟨a, ys, rfl, hs, rl⟩ := lstOf_rep S r1 hl
      have e := bools_rep rl hbs
      subst e
      exact ⟨a, bs, rfl, hs, post_here (a := D.bl _) S rfl q⟩
    · exact q.elim
  · exact q.elim
theorem anyD_ok : ArD X T anyD (rAny X.K) := by
  intro W σ μ H m ds xs Q S r q
  unfold anyD at q
  split at q
  · obtain ⟨v, rfl, r1⟩ := repL1 r
    split at q
    · rename_i bs hb
      obtain ⟨l, hl, hbs⟩ := Option.bind_eq_some_iff.mp hb
      obtain ⟨a, ys, rfl, hs, rl⟩ := lstOf_rep S r1 hl
      have e := bools_rep rl hbs
      subst e
      exact ⟨a, bs, rfl, hs, post_here (a := D.bl _) S rfl q⟩
    · exact q.elim
  · exact q.elim
end
end DL


/-! DLi: defs of a text, more statements, in, zip. -/
namespace DL
open PySem PySem.Spec L2
open PyProof.Rows hiding St

/-- a def of the text as the top has left it -/
structure DefAt (K : PySem.W.Frag) (mg : Str → Option Value) (x : Str) (st : Stmt) (ps : List Str) where
  f : Addr
  fd : FuncData
  F : Fun K x x st f fd
  m : mg x = some (.ref f)
  b : Binds K fd ps []

/-- a built-in class as a value -/
theorem de_ty (n : String) {X : Cx} {T : List (Addr × Str)} {W : WX} {x : Str} {pos : Pos} (hm : X.mg x = none) (hv : bootBuiltins x = some (.type n) := by decide +kernel) (hg : Gl X x := by rfl) (hn : x ≠ "__name__" := by decide) (hd : (x == ("__debug__" : Str)) = false := by decide) : DE X T W (.Name x pos) (eC (.ty n)) :=
  de_c (v := V.ty n) (pe_bltn hg hm hv rfl hn hd) fun _ _ => rfl

/-! ### a, b = e1, e2 and other targets -/
def sPar (i j : Nat) (G : LS) : SS := fun ρ m => (G ρ m).go ρ fun ds m1 => match ds with
  | [d, e] => .nx ((ρ.set i (some d)).set j (some e)) m1
  | _ => .no
def sAsg (F : ES) (g : GS) : SS := fun ρ m => (F ρ m).go ρ fun d m1 => RS.opt (g d ρ m1) fun ρ' => .nx ρ' m1
section
variable {X : Cx} {T : List (Addr × Str)} {W : WX} {pos : Pos}
theorem ds_par {i j : Nat} {x y : Str} {a b : Expr} {G : LS} {px py pt : Pos} {kt k2 : _} {pt2 : Pos} (hc : X.calm = true) (hN : X.N.Nodup) (hi : X.N[i]? = some x) (hj : X.N[j]? = some y) (hij : i ≠ j) (hx : X.env.scope.names.lookup x = some .local) (hy : X.env.scope.names.lookup y = some .local)
    (ha : DA X T W [a, b] G) (hs : swappedStores [.Tuple [.Name x px, .Name y py] kt pt] (.Tuple [a, b] k2 pt2) X.env = pure (some [x, y])) : DS X T W (.Assign [.Tuple [.Name x px, .Name y py] kt pt] (.Tuple [a, b] k2 pt2) pos) (sPar i j G) :=
  ⟨(ps_par hc hN hi hj hij hx hy ha.run hs).weak fun Z σ H ⟨μ, ρ, m, er, s, q⟩ => tG_mk er s (q.go er fun ds m1 μ1 H1 vs x1 s1 r1 q1 => by
    split at q1
    · obtain ⟨v, u, rfl, r, r'⟩ := repL2 r1
      exact ⟨v, u, rfl, q1.nx_here s1 (((er.ext x1).set r).set r')⟩
    · exact q1.elim)⟩
theorem ds_asg {t e : Expr} {F : ES} {ws : List Nat} {g : GS} (he : DE X T W e F) (hg : DG X T t ws g) (hs : swapsWithSole [t] e pos.line X.env = pure false := by rfl) (hw : swappedStores [t] e X.env = pure none := by rfl) (h1 : (assignEach [t] X.env).map (·.2) = [assign t X.env] := by rfl) : DS X T W (.Assign [t] e pos) (sAsg F g) :=
  ⟨(ps_asg he.run hg.run hs hw h1).weak fun Z σ H ⟨μ, ρ, m, er, s, q⟩ => tG_mk er s (q.go er fun d m1 μ1 H1 v x1 s1 r1 q1 => by
    cases hg : g d ρ m1 with
    | none => rw [hg] at q1; exact q1.elim
    | some ρ' =>
      rw [hg] at q1
      exact ⟨μ1, ρ, m1, d, er.ext x1, s1, r1, ρ', hg, fun σ' e' _ => q1.nx_here s1 e'⟩)⟩
end

/-! ### an empty dict that is a cell -/
def eDicC : ES := fun _ m => .ok (.cell m.length) (m ++ [.dic [] []])
theorem post_newDC {T : List (Addr × Str)} {K : PySem.W.Frag} {μ : List Addr} {H : Hp} {m : List C} {W : WX} {σ : L2.St} {ks : List Key} {l : List D} {xs : List V} {Q : VK} (S : Sto T K μ H m) (hl : ks.length = l.length) (r : RepL K μ H l xs) (h : Post (Rep K) T K W σ μ H (.ok (.cell m.length) (m ++ [.dic ks l])) Q) : ∀ p, H p = none → Q (.ref p) (upd H p (.dK (ks.zip xs))) := fun p hp => by
  have x : Ext μ H (μ ++ [p]) (upd H p (.dK (ks.zip xs))) := .cell hp
  exact h _ _ _ x (S.cell hp ⟨xs, upd_same, hl, r.ext x⟩) ⟨p, by rw [← S.len]; simp, rfl⟩
theorem de_dicC {X : Cx} {T : List (Addr × Str)} {W : WX} {pos : Pos} : DE X T W (.Dict [] [] pos) eDicC := ⟨pe_dnewK.weak fun σ H Q ⟨μ, ρ, m, er, s, q⟩ p hp => post_newDC (ks := []) (l := []) (xs := []) s rfl rfl q p hp⟩

/-! ### x op= y -/
def rIAddA : R2 := fun x y H Q => rI0 (fun i j => .int (i + j)) x y H Q ∨ ∃ i j, x = .str i ∧ y = .str j ∧ i.length + j.length ≤ sizeLine ∧ Q (.str (i ++ j)) H
theorem iop_addA {X : Cx} : OpR X (inplaceOp .Add) rIAddA := iop_add.or iop_add_str
/-- += of numbers and texts -/
def iaddD : D → D → List C → R D
  | .int i, .int j, m => .ok (.int (i + j)) m
  | .str x, .str y, m => if fits (x.length + y.length) then .ok (.str (x ++ y)) m else .no
  | _, _, _ => .no
theorem iaddD_ok {X : Cx} {T : List (Addr × Str)} : OpD X T iaddD rIAddA := by
  intro W σ μ H m d1 d2 x y Q S r1 r2 q
  unfold iaddD at q
  split at q
  · cases r1; cases r2
    exact .inl ⟨_, _, rfl, rfl, post_here (a := D.int _) S rfl q⟩
  · cases r1; cases r2
    split at q
    · rename_i hf
      exact .inr ⟨_, _, rfl, rfl, fits_iff.mp hf, post_here (a := D.str _) S rfl q⟩
    · exact q.elim
  · exact q.elim

/-! ### in -/
def flatOf : D → Option V
  | .non => some .non
  | .bl b => some (.bl b)
  | .int i => some (.int i)
  | .str x => some (.str x)
  | _ => none
def flatL : List D → Option (List V)
  | [] => some []
  | d :: l => (flatOf d).bind fun v => (flatL l).map fun vs => v :: vs
theorem flatOf_rep {K : PySem.W.Frag} {μ : List Addr} {H : Hp} {d : D} {v x : V} (r : Rep K μ H d v) (e : flatOf d = some x) : v = x ∧ flatV x = true := by
  cases d <;> first | (cases e; cases r; exact ⟨rfl, rfl⟩) | cases e
theorem flatL_rep {K : PySem.W.Frag} {μ : List Addr} {H : Hp} : ∀ {l : List D} {vs xs : List V}, RepL K μ H l vs → flatL l = some xs → vs = xs ∧ xs.all flatV = true
  | [], _, _, r, e => by cases e; cases r; exact ⟨rfl, rfl⟩
  | d :: l, _, _, r, e => by
    obtain ⟨x, xs, rfl, r1, r2⟩ := r
    unfold flatL at e
    cases h1 : flatOf d with
    | none => rw [h1] at e; cases e
    | some y =>
      rw [h1] at e
      cases h2 : flatL l with
      | none => rw [h2] at e; cases e
      | some ys =>
        rw [h2] at e
        cases e
        obtain ⟨rfl, f1⟩ := flatOf_rep r1 h1
        obtain ⟨rfl, f2⟩ := flatL_rep r2 h2
        exact ⟨rfl, by rw [List.all_cons, f1, f2]; rfl⟩
def strIn (x y : Str) : Bool := !(Builtin.Str.occurrences y x 0 y.length 1).isEmpty
/-- x in y -/
def inB (a b : D) (m : List C) : Option Bool := match a, b with
  | .str x, .str y => some (strIn x y)
  | a, b => match seqOf m b with
    | some l => (match flatOf a, flatL l with
      | some x, some xs => some (inV x xs)
      | _, _ => match a.data, dataOf m b with
        | some x, some (.list xs) => if SeqAt.shaped x && SeqAt.shaped (.list xs) then some (xs.any fun z => PyData.eqv z x) else none
        | _, _ => none)
    | none => match dicOf m b, keyOf a with
      | some (ks, vs), some k => some (lookD ks vs k).isSome
      | _, _ => none
def inD : D → D → List C → R D := fun a b m => match inB a b m with
  | some k => .ok (.bl k) m
  | none => .no
def notInD : D → D → List C → R D := fun a b m => match inB a b m with
  | some k => .ok (.bl (!k)) m
  | none => .no
def rInA (K : PySem.W.Frag) (f : Bool → Bool) : R2 := fun x y H Q => (∃ i j, x = .str i ∧ y = .str j ∧ Q (.bl (f (strIn i j))) H) ∨ (∃ p xs, y = .ref p ∧ (SqL K H p xs ∨ SqT K H p xs) ∧ flatV x = true ∧ xs.all flatV = true ∧ Q (.bl (f (inV x xs))) H) ∨
  (∃ d ds, Dp K H x d ∧ Dp K H y (.list ds) ∧ SeqAt.shaped d = true ∧ SeqAt.shaped (.list ds) = true ∧ Q (.bl (f (ds.any fun z => PyData.eqv z d))) H) ∨ ∃ a o, y = .ref a ∧ DGet H a x o ∧ Q (.bl (f o.isSome)) H
section
variable {X : Cx} {T : List (Addr × Str)}
theorem op_inDict (hu : X.A.units + 1 < cLine) : OpR X (compareOp .In) (fun x y H Q => ∃ a o, y = .ref a ∧ DGet H a x o ∧ Q (.bl (id o.isSome)) H) := by
  intro pins s σ H x y v u Q I rx ry h
  obtain ⟨a, o, rfl, g, q⟩ := h
  cases ry
  exact d_in hu I g rx fun s' I' => ⟨.bl _, H, I', rfl, q⟩
theorem op_notInDict (hu : X.A.units + 1 < cLine) : OpR X (compareOp .NotIn) (fun x y H Q => ∃ a o, y = .ref a ∧ DGet H a x o ∧ Q (.bl (!o.isSome)) H) := by
  intro pins s σ H x y v u Q I rx ry h
  obtain ⟨a, o, rfl, g, q⟩ := h
  cases ry
  exact d_notIn hu I g rx fun s' I' => ⟨.bl _, H, I', rfl, q⟩
theorem op_inA (hu5 : X.A.units + 65 < cLine) (hu : X.A.units + 1 < cLine) : OpR X (compareOp .In) (rInA X.K id) := OpR.or op_in_str (OpR.or op_in_seq (OpR.or (op_inD hu5) (op_inDict hu)))
theorem op_notInA (hu5 : X.A.units + 65 < cLine) (hu : X.A.units + 1 < cLine) : OpR X (compareOp .NotIn) (rInA X.K not) := OpR.or op_notin_str (OpR.or op_notIn_seq (OpR.or (op_notInD hu5) (op_notInDict hu)))
theorem inB_ok {f : Bool → Bool} {μ : List Addr} {H : Hp} {m : List C} {d1 d2 : D} {x y : V} {Q : VK} {k : Bool} (S : Sto T X.K μ H m) (r1 : Rep X.K μ H d1 x) (r2 : Rep X.K μ H d2 y) (e : inB d1 d2 m = some k) (q : Q (.bl (f k)) H) : rInA X.K f x y H Q := by
  unfold inB at e
  split at e
  · cases r1; cases r2; cases e
    exact .inl ⟨_, _, rfl, rfl, q⟩
  · split at e
    · rename_i l hl
      obtain ⟨a, xs, rfl, hs, rl⟩ := seqOf_rep S r2 hl
      split at e
      · rename_i v vs h1 h2
        cases e
        obtain ⟨rfl, f1⟩ := flatOf_rep r1 h1
        obtain ⟨rfl, f2⟩ := flatL_rep rl h2
        exact .inr (.inl ⟨a, _, rfl, hs, f1, f2, q⟩)
      · split at e
        · rename_i v vs h1 h2
          split at e
          · rename_i hh
            cases e
            rw [Bool.and_eq_true] at hh
            exact .inr (.inr (.inl ⟨v, vs, data_dp _ r1 h1, dataOf_dp S r2 h2, hh.1, hh.2, q⟩))
          · cases e
        · cases e
    · split at e
      · rename_i ks vs k' hd hk
        obtain ⟨a, xs, rfl, rd, hl, rl⟩ := dicOf_rep S r2 hd
        have ek := keyOf_rep r1 hk
        subst ek
        cases e
        refine .inr (.inr (.inr ⟨a, valV (ks.zip xs) k', rfl, .inl ⟨_, _, rd, rfl, rfl⟩, ?_⟩))
        have lk := lookD_rep (k := k') rl hl
        cases hL : lookD ks vs k' with
        | none => rw [hL] at q; rw [lk.2 hL]; exact q
        | some d =>
          obtain ⟨v, ev, _⟩ := lk.1 d hL
          rw [hL] at q
          rw [ev]
          exact q
      · cases e
theorem inD_ok : OpD X T inD (rInA X.K id) := by
  intro W σ μ H m d1 d2 x y Q S r1 r2 q
  unfold inD at q
  split at q
  · rename_i k hk
    exact inB_ok S r1 r2 hk (post_here (a := D.bl _) S rfl q)
  · exact q.elim
theorem notInD_ok : OpD X T notInD (rInA X.K not) := by
  intro W σ μ H m d1 d2 x y Q S r1 r2 q
  unfold notInD at q
  split at q
  · rename_i k hk
    exact inB_ok S r1 r2 hk (post_here (a := D.bl _) S rfl q)
  · exact q.elim
end
end DL


/-! DLj: constants of the module, raise, dict(pairs), get, zip. -/
namespace DL
open PySem PySem.Spec L2
open PyProof.Rows hiding St

section
variable {X : Cx} {T : List (Addr × Str)} {W : WX} {pos : Pos}
/-- a number of the module -/
theorem de_cint (i : Int) {x : Str} (h : ∃ t, X.mg x = some (.int i t)) (hg : Gl X x := by rfl) (hd : (x == ("__debug__" : Str)) = false := by decide) : DE X T W (.Name x pos) (eC (.int i)) := by
  obtain ⟨t, h⟩ := h
  exact de_c (v := V.int i) (pe_glob hg h ⟨t, rfl⟩ hd) fun _ _ => rfl
theorem de_cstr (y : Str) {x : Str} (h : ∃ t, X.mg x = some (.str y t)) (hg : Gl X x := by rfl) (hd : (x == ("__debug__" : Str)) = false := by decide) : DE X T W (.Name x pos) (eC (.str y)) := by
  obtain ⟨t, h⟩ := h
  exact de_c (v := V.str y) (pe_glob hg h ⟨t, rfl⟩ hd) fun _ _ => rfl
/-- a statement that is never reached -/
def sNever : SS := fun _ _ => .no
theorem ds_never {st : Stmt} : DS X T W st sNever := ⟨ps_never.weak fun Z σ H ⟨μ, ρ, m, er, s, q⟩ => q⟩

/-! ### raise -/
/-- an own error class without own __init__ -/
structure ErrAt (K : PySem.W.Frag) (mg : Str → Option Value) (x : Str) (c : Addr) : Prop where
  g : mg x = some (.ref c)
  e : PySem.W.excIn K c [.type "ValueError", .type "Exception", .type "BaseException", .type "object"] "ValueError.__new__" = true
  k : PySem.W.keepIn K (.ref c) = true
  b : PySem.W.subIn K (.ref c) (.type "BaseException") = some true
  t : PySem.W.typeIn K (.ref c) = some (.type "type")
theorem pmk_err0 {x : Str} {p : Pos} {c : Addr} (e : ErrAt X.K X.mg x c) (hg : Gl X x := by rfl) (hd : (x == ("__debug__" : Str)) = false := by decide) : PMk X (.Call (.Name x p) [] [] pos) (fun _ H Q => Q (.ref c) none H) := by
  intro pins s σ H Q I h
  refine wpAny_Call_Name_kw (ld_glob I hg e.g ?_ hd)
  refine PySem.W.callWith_K0 I.kIn e.k ?_
  obtain ⟨bm, N, nm, qn, bs, hdct, sn, sub, ab, col, dd, k0, k1, k2, k3, k5, mN, hC, hN, hni, T⟩ := exc_obj I.kIn e.e
  exact wpAny_call_exc_subT PySem.F.excBase_ValueError T hC hN hni (fun h' x hm => mk_of I hm (raises_own e.b e.t) h (I.hok.gone hm.new)) (Nat.zero_le _)
def sRaise0 (c : Addr) : SS := fun ρ m => .ex c [] [] ρ m
theorem ds_raise0 {x : Str} {p pos' : Pos} {c : Addr} (hc : X.calm = true) (tk : Takes X W) (e : ErrAt X.K X.mg x c) (hg : Gl X x := by rfl) (hd : (x == ("__debug__" : Str)) = false := by decide) : DS X T W (.Raise (some (.Call (.Name x p) [] [] pos)) none pos') (sRaise0 c) :=
  ⟨(ps_raise hc tk (pmk_err0 e hg hd)).weak fun Z σ H ⟨μ, ρ, m, er, s, q⟩ => q μ H σ none (.refl _ _) s er (.inl ⟨rfl, rfl, rfl⟩)⟩
end

/-! ### zip of two lists or two tuples -/
def zipD : List D → List D → List D
  | x :: xs, y :: ys => .tmp [x, y] :: zipD xs ys
  | _, _ => []
theorem zipD_length : ∀ xs ys : List D, (zipD xs ys).length = min xs.length ys.length
  | [], _ => by simp [zipD]
  | _ :: _, [] => by simp [zipD]
  | x :: xs, y :: ys => by simp [zipD, zipD_length xs ys]
theorem zipD_get : ∀ {xs ys : List D} {i : Nat} {d : D}, (zipD xs ys)[i]? = some d → ∃ x y, d = .tmp [x, y] ∧ xs[i]? = some x ∧ ys[i]? = some y
  | [], _, _, _, h => by simp [zipD] at h
  | _ :: _, [], _, _, h => by simp [zipD] at h
  | x :: xs, y :: ys, 0, d, h => by
    simp [zipD] at h
    subst h
    exact ⟨x, y, rfl, rfl, rfl⟩
  | x :: xs, y :: ys, i + 1, d, h => by
    simp [zipD] at h
    obtain ⟨a, b, e, h1, h2⟩ := zipD_get h
    exact ⟨a, b, e, by simpa using h1, by simpa using h2⟩
def iZipD (G : LS) : LS := fun ρ m => (G ρ m).bind fun l m1 => match l with
  | [.lst a, .lst b] => .ok (zipD a b) m1
  | [.tup a, .tup b] => .ok (zipD a b) m1
  | _ => .no
section
variable {X : Cx} {T : List (Addr × Str)} {W : WX} {pos : Pos}
theorem tmp_new {K : PySem.W.Frag} {μ : List Addr} {H : Hp} {m : List C} {p : Addr} {l : List D} {xs : List V} (s : Sto T K μ H m) (hp : H p = none) (r : RepL K μ H l xs) : Ext μ H μ (upd H p (.tup xs)) ∧ Sto T K μ (upd H p (.tup xs)) m ∧ Rep K μ (upd H p (.tup xs)) (.tmp l) (.ref p) := by
  have x : Ext μ H μ (upd H p (.tup xs)) := .new hp
  exact ⟨x, s.new hp, p, xs, rfl, SqT.of upd_same, r.ext x⟩
theorem iter_zipL {K : PySem.W.Frag} {μ : List Addr} {H : Hp} {a b : Addr} {xs ys : List V} {l k : List D} (h1 : FzL K H a xs) (r1 : RepL K μ H l xs) (h2 : FzL K H b ys) (r2 : RepL K μ H k ys) : IterOk T K (Itz K a b) (zipD l k) μ H := by
  have st1 : ∀ H', Kept H H' → SqL K H' a xs := fun H' q => FzL.sql (show FzL K H' a xs from h1.imp fun o e => q.frz _ _ _ e)
  have st2 : ∀ H', Kept H H' → SqL K H' b ys := fun H' q => FzL.sql (show FzL K H' b ys from h2.imp fun o e => q.frz _ _ _ e)
  refine ⟨fun i H' q hi => ?_, fun H' q => ⟨xs, ys, st1 H' q, st2 H' q, ?_⟩, fun i H' x H2 μ' m d q hp s hd hy => ?_⟩
  · rw [zipD_length] at hi
    obtain ⟨v, hv, _⟩ := r1.get (List.getElem?_eq_getElem (show i < l.length by omega))
    obtain ⟨u, hu, _⟩ := r2.get (List.getElem?_eq_getElem (show i < k.length by omega))
    exact ⟨xs, ys, v, u, st1 H' q, st2 H' q, hv, hu⟩
  · rw [zipD_length, r1.length, r2.length]
    omega
  · obtain ⟨dx, dy, rfl, e1, e2⟩ := zipD_get hd
    obtain ⟨p, x', y', rfl, hp', rfl, f1, f2⟩ := hy
    obtain ⟨v, hv, rv⟩ := r1.get e1
    obtain ⟨u, hu, ru⟩ := r2.get e2
    have z1 := f1 xs (st1 _ q)
    have z2 := f2 ys (st2 _ q)
    rw [hv] at z1
    rw [hu] at z2
    cases z1; cases z2
    exact tmp_new s hp' (.cons (rv.keep q hp) (.cons (ru.keep q hp) .nil))
theorem iter_zipT {K : PySem.W.Frag} {μ : List Addr} {H : Hp} {a b : Addr} {xs ys : List V} {l k : List D} (h1 : TpL K H a xs) (r1 : RepL K μ H l xs) (h2 : TpL K H b ys) (r2 : RepL K μ H k ys) : IterOk T K (RZ.ItzT K a b) (zipD l k) μ H := by
  have st1 : ∀ H', Kept H H' → SqT K H' a xs := fun H' q => (q.tpL h1).sqt
  have st2 : ∀ H', Kept H H' → SqT K H' b ys := fun H' q => (q.tpL h2).sqt
  refine ⟨fun i H' q hi => ?_, fun H' q => ⟨xs, ys, st1 H' q, st2 H' q, ?_⟩, fun i H' x H2 μ' m d q hp s hd hy => ?_⟩
  · rw [zipD_length] at hi
    obtain ⟨v, hv, _⟩ := r1.get (List.getElem?_eq_getElem (show i < l.length by omega))
    obtain ⟨u, hu, _⟩ := r2.get (List.getElem?_eq_getElem (show i < k.length by omega))
    exact ⟨xs, ys, v, u, st1 H' q, st2 H' q, hv, hu⟩
  · rw [zipD_length, r1.length, r2.length]
    omega
  · obtain ⟨dx, dy, rfl, e1, e2⟩ := zipD_get hd
    obtain ⟨p, x', y', rfl, hp', rfl, f1, f2⟩ := hy
    obtain ⟨v, hv, rv⟩ := r1.get e1
    obtain ⟨u, hu, ru⟩ := r2.get e2
    have z1 := f1 xs (st1 _ q)
    have z2 := f2 ys (st2 _ q)
    rw [hv] at z1
    rw [hu] at z2
    cases z1; cases z2
    exact tmp_new s hp' (.cons (rv.keep q hp) (.cons (ru.keep q hp) .nil))
theorem di_zip {e e2 : Expr} {G : LS} {p tpos : Pos} {elts : List Expr} {kk : Nat} (hm : X.mg "zip" = none) (ha : DA X T W [e, e2] G) (hg : Gl X "zip" := by rfl)
    (hs : starEach [e, e2] X.env = (false, eval e X.env) :: starEach [e2] X.env := by rfl) (hpl : (backTo pos (starEach [e2] X.env)).any (·.1) = false := by rfl) : DI X T W (.Tuple elts kk tpos) (.Call (.Name "zip" p) [e, e2] [] pos) (iZipD G) :=
  ⟨(RZ.pi_zipA hg hm ha.run hs hpl).weak fun σ H R ⟨μ, ρ, m, er, s, q⟩ => tG_mk er s (q.bind fun l m1 μ1 H1 vs x1 s1 r1 q1 => by
    split at q1
    · obtain ⟨v, u, rfl, r, r'⟩ := repL2 r1
      obtain ⟨a, xs, rfl, f1, q2⟩ := r
      obtain ⟨b, ys, rfl, f2, q3⟩ := r'
      exact ⟨a, b, xs, ys, rfl, .inl ⟨f1.sql, f2.sql, post_here (rp := iRep T X.K) s1 (iter_zipL f1 q2 f2 q3) q1⟩⟩
    · obtain ⟨v, u, rfl, r, r'⟩ := repL2 r1
      obtain ⟨a, xs, rfl, f1, q2⟩ := r
      obtain ⟨b, ys, rfl, f2, q3⟩ := r'
      exact ⟨a, b, xs, ys, rfl, .inr ⟨f1.sqt, f2.sqt, post_here (rp := iRep T X.K) s1 (iter_zipT f1 q2 f2 q3) q1⟩⟩
    · exact q1.elim)⟩
end

/-! ### d.get(k, x) -/
def eGet2 (Fo Fk Fx : ES) : ES := fun ρ m => (Fo ρ m).bind fun o m1 => match dicOf m1 o with
  | none => .no
  | some _ => (Fk ρ m1).bind fun k m2 => (Fx ρ m2).bind fun x m3 => match dicOf m3 o, keyOf k with
    | some (ks, vs), some k => (match lookD ks vs k with
      | some v => .ok v m3
      | none => .ok x m3)
    | _, _ => .no
section
variable {X : Cx} {T : List (Addr × Str)} {W : WX}
theorem de_get2 {o e f : Expr} {apos cpos : Pos} {Fo Fk Fx : ES} (hu : X.A.units + 1 < cLine) (ho : DE X T W o Fo) (he : DE X T W e Fk) (hf : DE X T W f Fx) (m : M2 X o "get" apos e f cpos := by exact ⟨rfl, rfl, rfl, rfl⟩) : DE X T W (.Call (.Attribute o "get" apos) [e, f] [] cpos) (eGet2 Fo Fk Fx) :=
  ⟨(pe_dget2 hu ho.run he.run hf.run m).weak fun σ H Q ⟨μ, ρ, m, er, s, q⟩ => tG_mk er s (q.bind fun d m1 μ1 H1 x x1 s1 r1 q1 => by
    cases hd : dicOf m1 d with
    | none => rw [hd] at q1; exact q1.elim
    | some p =>
      obtain ⟨ks, vs⟩ := p
      rw [hd] at q1
      obtain ⟨a, xs, rfl, rd, hl, rl⟩ := dicOf_rep s1 r1 hd
      refine ⟨a, rfl, .inl ⟨_, rd⟩, tG_mk (er.ext x1) s1 (q1.bind fun k m2 μ2 H2 y x2 s2 r2 q2 => tG_mk ((er.ext x1).ext x2) s2 (q2.bind fun z m3 μ3 H3 w x3 s3 r3 q3 => ?_))⟩
      split at q3
      · rename_i ks' vs' k' hd' hk
        obtain ⟨a', ys, ea, rd', hl', rl'⟩ := dicOf_rep s3 ((r1.ext x2).ext x3) hd'
        cases ea
        have ek := keyOf_rep (r2.ext x3) hk
        subst ek
        refine ⟨valV (ks'.zip ys) k', .inl ⟨_, _, rd', rfl, rfl⟩, ?_⟩
        have lk := lookD_rep (k := k') rl' hl'
        cases hL : lookD ks' vs' k' with
        | none =>
          rw [hL] at q3
          rw [lk.2 hL]
          exact post_here s3 r3 q3
        | some v =>
          rw [hL] at q3
          obtain ⟨u, eu, ru⟩ := lk.1 v hL
          rw [eu]
          exact post_here s3 ru q3
      · exact q3.elim)⟩
end

/-! ### dict(pairs) -/
/-- the pairs of a list -/
def pairsD : List D → Option (List Key × List D)
  | [] => some ([], [])
  | .tup [k, v] :: l => match keyOf k, pairsD l with
    | some k, some (ks, vs) => some (k :: ks, v :: vs)
    | _, _ => none
  | _ => none
def mergeD (ks0 : List Key) (vs0 : List D) : List Key → List D → List Key × List D
  | k :: ks, v :: vs => mergeD (putD ks0 vs0 k v).1 (putD ks0 vs0 k v).2 ks vs
  | _, _ => (ks0, vs0)
/-- dict(pairs), a cell -/
def dictD : FS := fun ds m => match ds with
  | [d] => (match d with
    | .lst l => (match pairsD l with
      | some (ks, vs) => .ok (.cell m.length) (m ++ [.dic (mergeD [] [] ks vs).1 (mergeD [] [] ks vs).2])
      | none => .no)
    | .tup l => (match pairsD l with
      | some (ks, vs) => .ok (.cell m.length) (m ++ [.dic (mergeD [] [] ks vs).1 (mergeD [] [] ks vs).2])
      | none => .no)
    | _ => .no)
  | _ => .no
section
variable {K : PySem.W.Frag} {μ : List Addr} {H : Hp}
theorem mergeD_rep : ∀ {ks : List Key} {vs : List D} {xs : List V} {ks0 : List Key} {vs0 : List D} {xs0 : List V}, RepL K μ H vs xs → ks.length = vs.length → RepL K μ H vs0 xs0 → ks0.length = vs0.length →
    ∃ ys, mergeK (ks0.zip xs0) (ks.zip xs) = (mergeD ks0 vs0 ks vs).1.zip ys ∧ RepL K μ H (mergeD ks0 vs0 ks vs).2 ys ∧ (mergeD ks0 vs0 ks vs).1.length = (mergeD ks0 vs0 ks vs).2.length
  | [], vs, xs, ks0, vs0, xs0, r, e, r0, e0 => by
    have : vs = [] := by simpa using e.symm
    subst this
    cases r
    exact ⟨xs0, rfl, r0, e0⟩
  | k :: ks, [], _, _, _, _, _, e, _, _ => by cases e
  | k :: ks, v :: vs, _, ks0, vs0, xs0, r, e, r0, e0 => by
    obtain ⟨x, xs, rfl, r1, r2⟩ := r
    obtain ⟨ys, h1, h2, h3⟩ := putD_rep (k := k) r0 e0 r1
    obtain ⟨zs, g1, g2, g3⟩ := mergeD_rep (ks := ks) r2 (Nat.succ.inj e) h2 h3
    refine ⟨zs, ?_, g2, g3⟩
    rw [List.zip_cons_cons]
    show mergeK (putK (ks0.zip xs0) k x) (ks.zip xs) = (mergeD (putD ks0 vs0 k v).1 (putD ks0 vs0 k v).2 ks vs).1.zip zs
    rw [h1]
    exact g1
end
section
variable {X : Cx} {T : List (Addr × Str)}
/-- the pairs as the library's rule wants them -/
theorem pairs_at {pins : List (Addr × Obj)} {σ : L2.St} {μ : List Addr} {H : Hp} {s : Shared} (I : Inv X pins σ H s) : ∀ {l : List D} {xs : List V} {us : List Value} {ks : List Key} {vs : List D}, RepL X.K μ H l xs → Vals xs us → pairsD l = some (ks, vs) →
    ∃ (as : List Addr) (ps : List (Value × Value)) (ys : List V) (ws : List Value), us = as.map Value.ref ∧ as.length = ps.length ∧ ks.length = vs.length ∧ RepL X.K μ H vs ys ∧ Vals ys ws ∧ ws.length = ps.length ∧ ks.length = ps.length ∧
      (∀ (j : Nat) (k v : Value), ps[j]? = some (k, v) → ∃ a, as[j]? = some a ∧ s.heap.IsTuple a #[k, v] ∧ ∃ k', ks[j]? = some k' ∧ keyIs k' k = true ∧ ws[j]? = some v)
  | [], _, _, _, _, r, rv, e => by
    cases e; cases r; cases rv
    exact ⟨[], [], [], [], rfl, rfl, rfl, rfl, .nil, rfl, rfl, fun j k v h => by simp at h⟩
  | d :: l, _, _, ks, vs, r, rv, e => by
    obtain ⟨x, xs, rfl, r1, r2⟩ := r
    cases rv with
    | cons rx rr =>
      unfold pairsD at e
      split at e
      · cases ‹d :: l = []›
      · rename_i dk dv l' hl
        cases hl
        split at e
        · rename_i k ks' vs' hk hp
          cases e
          obtain ⟨as, ps, ys, ws, h1, h2, h3, h4, h5, h6, h7, h8⟩ := pairs_at I r2 rr hp
          obtain ⟨a, zs, rfl, hs, rz⟩ := r1
          obtain ⟨zk, zv, rfl, rk, rvv⟩ := repL2 rz
          cases rx
          obtain ⟨its, rits, ht, _⟩ := I.tuple hs.sqt
          obtain ⟨uk, uv, rfl, ruk, ruv⟩ := vals2 rits
          have ek := keyOf_rep rk hk
          subst ek
          refine ⟨a :: as, (uk, uv) :: ps, zv :: ys, uv :: ws, by rw [h1]; rfl, by simp [h2], by simp [h3], .cons rvv h4, .cons ruv h5, by simp [h6], by simp [h7], fun j k' v' hj => ?_⟩
          cases j with
          | zero =>
            simp at hj
            obtain ⟨rfl, rfl⟩ := hj
            exact ⟨a, rfl, ht, k, rfl, kV_is (P := X.prog) (w := X.w) ruk, rfl⟩
          | succ j =>
            obtain ⟨b, e1, e2, k2, e3, e4, e5⟩ := h8 j k' v' (by simpa using hj)
            exact ⟨b, by simpa using e1, e2, k2, by simpa using e3, e4, by simpa using e5⟩
        · cases e
      · cases e
def rDictA (K : PySem.W.Frag) : List V → Hp → VK → Prop := fun xs H Q => ∃ (μ : List Addr) (a : Addr) (ys zs : List V) (l : List D) (ks : List Key) (vs : List D), xs = [.ref a] ∧ ((∃ o, H a = some (.frz o (.lst ys))) ∨ TpL K H a ys) ∧ RepL K μ H l ys ∧ pairsD l = some (ks, vs) ∧
  ∀ xs', RepL K μ H vs xs' → ks.length = vs.length → ∀ p, H p = none → Q (.ref p) (upd H p (.dK (mergeK [] (ks.zip xs'))))
theorem call_dictA (hcalm : X.calm = true) : CallR X (.type "dict") (rDictA X.K) := by
  intro pins s σ H xs us Q I r h
  obtain ⟨μ, a, ys, zs, l, ks, vs, rfl, hsrc, rl, hp, q⟩ := h
  obtain ⟨u, rfl, rx⟩ := vals1 r
  cases rx
  have fin : ∀ {its : List Value} {ps : List (Value × Value)} {ws : List Value} {xs' : List V} {T : String} {fp wr : List Addr} {OK : Heap → Prop}, PairArg X.prog X.w T a fp [] ps.length (PairRel ps) OK → OK s.heap → RepL X.K μ H vs xs' → Vals xs' ws → ks.length = vs.length → ws.length = ps.length → ks.length = ps.length →
      (∀ (j : Nat) (k v : Value), ps[j]? = some (k, v) → ∃ k', ks[j]? = some k' ∧ keyIs k' k = true ∧ ws[j]? = some v) → ps.length ≤ sizeLine → wpAny (model X.prog X.w) X.A (call (.type "dict") [.ref a]) (EP X pins σ Q) X.xe s := by
    intro its ps ws xs' T fp wr OK P ok r4 r5 e3 e6 e7 e8 hz
    have hkv : ∀ {ks : List Key} {xs' : List V} {ws : List Value}, Vals xs' ws → KV (ks.zip xs') (ks.zip ws) := by
      intro ks
      induction ks with
      | nil => intro xs' ws _; exact .nil
      | cons k ks ih =>
        intro xs' ws h
        cases h with
        | nil => exact .nil
        | cons h1 h2 => exact .cons ⟨rfl, h1⟩ (ih h2)
    refine PySem.call_dict_pairs (knd := mixKind X.prog X.w) (kvs := ks.zip ws) P (I.ok.hd hcalm) ok ⟨by rw [List.length_zip, e7, e6, Nat.min_self], fun i key v hi => ?_⟩ hz fun h' tk hd' hk => ?_
    · obtain ⟨k', g1, g2, g3⟩ := e8 i key v hi
      exact ⟨k', by rw [List.getElem?_zip_eq_some]; exact ⟨g1, g3⟩, g2⟩
    · have hm : (s.heap.objs.size == sysModules) = false := beq_eq_false_iff_ne.mpr (Nat.ne_of_gt I.big)
      have hlen : (mergeK [] (ks.zip xs')).length ≤ sizeLine := by
        refine Nat.le_trans (length_mergeK _ []) ?_
        rw [List.length_nil, Nat.zero_add, List.length_zip, r5.length, e6, e7, Nat.min_self]
        exact hz
      exact ⟨.ref s.heap.objs.size, _, I.laid (t' := tk) (fun b o e => hk b o (fun z => nomatch z) e) (Nat.le_refl _) (show ObjOk X.prog X.w _ _ _ (.dK (mergeK [] (ks.zip xs'))) from ⟨hlen, hm, _, KV.merge (hkv r5) .nil, hd'⟩), rfl, q xs' r4 e3 _ (I.hok.fresh (Nat.le_refl _))⟩
  rcases hsrc with ⟨o, hH⟩ | hT
  · obtain ⟨his, hO⟩ := I.hok a _ hH
    obtain ⟨hz, its, n, rv, ho⟩ := hO
    obtain ⟨as, ps, xs', ws, e1, e2, e3, r4, r5, e6, e7, e8⟩ := pairs_at I rl rv hp
    subst e1
    refine fin (its := []) (wr := []) (PairArg.list a (as.map Value.ref).toArray (fun j => as.getD j 0) ps) ⟨⟨_, n, ho, rfl, rfl, rfl⟩, ?_⟩ r4 r5 e3 e6 e7 (fun j k v hj => ?_) ?_
    · refine ⟨by simp [e2], fun j k v hj => ?_⟩
      obtain ⟨b, g1, g2, _⟩ := e8 j k v hj
      have g0 : as.getD j 0 = b := by rw [List.getD_eq_getElem?_getD, g1]; rfl
      exact ⟨by dsimp only; rw [g0]; simp [g1], by dsimp only; rw [g0]; exact .inl g2⟩
    · obtain ⟨b, g1, g2, k', g3, g4, g5⟩ := e8 j k v hj
      exact ⟨k', g3, g4, g5⟩
    · have := rv.length
      rw [List.length_map] at this
      omega
  · have hget : ∃ (o : Obj) (its : List Value) (n : Nat), s.heap.get? a = some o ∧ o.cls = .type "tuple" ∧ o.dict = none ∧ o.data = .seq its.toArray n ∧ Vals ys its ∧ ys.length ≤ sizeLine := by
      rcases hT with ⟨o, hH, hd⟩ | ⟨o, its, n, hk, hc, hd, hs, hz, rv⟩
      · obtain ⟨his, hO⟩ := I.hok a _ hH
        obtain ⟨hz, its, rv, o', ho', hc, n, hs⟩ := hO
        rw [his] at ho'
        cases ho'
        exact ⟨o, its, n, his, hc, hd, hs, rv, hz⟩
      · have := rv.length
        rw [Array.length_toList] at this
        exact ⟨o, its.toList, n, I.kIn a o hk, hc, hd, by simpa using hs, rv, by rw [rv.length, Array.length_toList]; exact hz⟩
    obtain ⟨o, its, n, ho, hc, hd, hs, rv, hz⟩ := hget
    obtain ⟨as, ps, xs', ws, e1, e2, e3, r4, r5, e6, e7, e8⟩ := pairs_at I rl rv hp
    subst e1
    refine fin (its := []) (wr := []) (PairArg.tuple a (as.map Value.ref).toArray (fun j => as.getD j 0) ps) ⟨⟨o, n, ho, hc, hd, hs⟩, ?_⟩ r4 r5 e3 e6 e7 (fun j k v hj => ?_) ?_
    · refine ⟨by simp [e2], fun j k v hj => ?_⟩
      obtain ⟨b, g1, g2, _⟩ := e8 j k v hj
      have g0 : as.getD j 0 = b := by rw [List.getD_eq_getElem?_getD, g1]; rfl
      exact ⟨by dsimp only; rw [g0]; simp [g1], by dsimp only; rw [g0]; exact .inl g2⟩
    · obtain ⟨b, g1, g2, k', g3, g4, g5⟩ := e8 j k v hj
      exact ⟨k', g3, g4, g5⟩
    · have := rv.length
      rw [List.length_map] at this
      omega
theorem dictD_ok : ArD X T dictD (rDictA X.K) := by
  intro W σ μ H m ds xs Q S r q
  have key : ∀ {l : List D} {ks : List Key} {vs : List D}, Post (Rep X.K) T X.K W σ μ H (.ok (.cell m.length) (m ++ [.dic (mergeD [] [] ks vs).1 (mergeD [] [] ks vs).2])) Q → ∀ xs', RepL X.K μ H vs xs' → ks.length = vs.length → ∀ p, H p = none → Q (.ref p) (upd H p (.dK (mergeK [] (ks.zip xs')))) := by
    intro l ks vs q xs' r' e' p hp
    obtain ⟨ys, h1, h2, h3⟩ := mergeD_rep (ks0 := []) (vs0 := []) (xs0 := []) r' e' rfl rfl
    rw [show ([] : List (Key × V)) = ([] : List Key).zip ([] : List V) from rfl, h1]
    exact post_newDC S h3 h2 q p hp
  unfold dictD at q
  split at q
  · obtain ⟨v, rfl, r1⟩ := repL1 r
    split at q
    · rename_i l
      split at q
      · rename_i ks vs hp
        obtain ⟨a, ys, rfl, f, rl⟩ := r1
        exact ⟨μ, a, ys, [], l, ks, vs, rfl, .inl f, rl, hp, key (l := l) q⟩
      · exact q.elim
    · rename_i l
      split at q
      · rename_i ks vs hp
        obtain ⟨a, ys, rfl, f, rl⟩ := r1
        exact ⟨μ, a, ys, [], l, ks, vs, rfl, .inr f, rl, hp, key (l := l) q⟩
      · exact q.elim
    · exact q.elim
  · exact q.elim
end
end DL


/-! DLk: lambdas handed to a def, try .. except .. as, isinstance of an error. -/
namespace DL
open PySem PySem.Spec L2
open PyProof.Rows hiding St

/-! ### the outer names, packed -/
def packD (ρ : Env) : List D := ρ.map fun o => o.getD .non
def packV : Env → St → List V
  | none :: ρ, _ :: σ => .non :: packV ρ σ
  | some _ :: ρ, v :: σ => v.getD .non :: packV ρ σ
  | _, _ => []
section
variable {K : PySem.W.Frag} {μ : List Addr} {H : Hp}
theorem pack_rep : ∀ {ρ : Env} {σ : St}, ERep K μ H ρ σ → RepL K μ H (packD ρ) (packV ρ σ)
  | [], σ, e => by
    cases σ with
    | nil => rfl
    | cons a l => cases e.len
  | o :: ρ, [], e => by cases e.len
  | o :: ρ, v :: σ, e => by
    have t : ERep K μ H ρ σ := ⟨Nat.succ.inj e.len, fun i d h => e.get (i + 1) d h⟩
    cases o with
    | none => exact ⟨.non, packV ρ σ, rfl, rfl, pack_rep t⟩
    | some d =>
      obtain ⟨w, e1, r⟩ := e.get 0 d rfl
      cases e1
      exact ⟨w, packV ρ σ, rfl, r, pack_rep t⟩
theorem unpack_rep : ∀ {ρ : Env} {σ : St}, ρ.length = σ.length → (∀ (i : Nat) (d : D), ρ[i]? = some (some d) → ∃ v, σ[i]? = some (some v)) → RepL K μ H (packD ρ) (packV ρ σ) → ERep K μ H ρ σ
  | [], σ, e, _, _ => ⟨e, fun i d h => by cases h⟩
  | o :: ρ, [], e, _, _ => by cases e
  | o :: ρ, v :: σ, e, hs, r => by
    have key : ∀ {x : D} {y : V} {l : List D} {k : List V}, RepL K μ H (x :: l) (y :: k) → Rep K μ H x y ∧ RepL K μ H l k := fun h => by
      obtain ⟨a, b, e, r1, r2⟩ := h
      cases e
      exact ⟨r1, r2⟩
    cases o with
    | none =>
      obtain ⟨_, r2⟩ := key (show RepL K μ H (.non :: packD ρ) (.non :: packV ρ σ) from r)
      have t := unpack_rep (Nat.succ.inj e) (fun i d h => hs (i + 1) d h) r2
      exact ⟨e, fun i d h => by
        cases i with
        | zero => cases h
        | succ i => exact t.get i d h⟩
    | some d =>
      obtain ⟨w, hw⟩ := hs 0 d rfl
      cases hw
      obtain ⟨r1, r2⟩ := key (show RepL K μ H (d :: packD ρ) (w :: packV ρ σ) from r)
      have t := unpack_rep (Nat.succ.inj e) (fun i d h => hs (i + 1) d h) r2
      exact ⟨e, fun i d' h => by
        cases i with
        | zero => cases h; exact ⟨w, rfl, r1⟩
        | succ i => exact t.get i d' h⟩
end

/-! ### what a lambda does -/
abbrev Th := List C → R D
/-- the named call of what the def got -/
noncomputable def eAct (L : D) (th : Th) : ES := fun ρ m => open Classical in if ρ[0]? = some (some L) then th m else .no
abbrev WNo : WX := fun _ _ _ _ => False
/-- what is told of the lambda's value L -/
def ThOk (K : PySem.W.Frag) (T : List (Addr × Str)) (ds : List D) (vs : List V) (th : Th) (tl : XK → Hp → VK → Prop) : Prop :=
  ∀ (E : XK) (μ : List Addr) (H : Hp) (m : List C) (Q : VK), RepL K μ H ds vs → Sto T K μ H m → Post (Rep K) T K (fun cls d _ H => E cls d H) [] μ H (th m) Q → tl E H Q
abbrev GCx (X : Cx) (Ng : List Str) (x : Str) (sg : Scope) (g : Addr) (cdg : Value) (s : Shared) (H : Hp) : Cx := cxOf C8.CX0 X.prog X.w X.K X.mg X.base Ng x sg g cdg X.A X.stack s H C8.E0
/-- the def x that got a lambda by the name a, its body bg: G is what it makes of it -/
def GivesD (X : Cx) (T : List (Addr × Str)) (Ng : List Str) (x : Str) (sg : Scope) (g : Addr) (cdg : Value) (bg : List Stmt) (a : Str) (G : Th → Th) : Prop :=
  ∀ (f c : Addr) (q : Str) (ds : List D) (vs : List V) (th : Th) (s : Shared) (H : Hp) (μ : List Addr) (m : List C) (Q : VK),
    (∀ (W : WX) (pn : List (Addr × Obj)) (xe : Value → Shared → Prop) (p1 p2 : Pos), Takes ((GCx X Ng x sg g cdg s H).nox.tr pn xe) W → DE ((GCx X Ng x sg g cdg s H).nox.tr pn xe) T W (.Call (.Name a p1) [] [] p2) (eAct (.lam f c q ds vs) th)) →
    Rep X.K μ H (.lam f c q ds vs) (.ref f) → Sto T X.K μ H m → Post (Rep X.K) T X.K WNo [] μ H (G th m) Q →
    ∃ t, PSs (GCx X Ng x sg g cdg s H).nox bg t ∧ t { nx := fun _ H' => Q .non H', rt := Q } (L2.start Ng [.ref f]) H
theorem gives_D {X : Cx} {T : List (Addr × Str)} {Ng : List Str} {x a : Str} {sg : Scope} {g : Addr} {cdg : Value} {bg : List Stmt} {G : Th → Th} (B : D → Th → SS)
    (hG : ∀ L th m, G th m = .no ∨ fnD Ng.length (B L th) [L] m = G th m)
    (hb : ∀ (L : D) (th : Th) (s : Shared) (H : Hp), (∀ (W : WX) (pn : List (Addr × Obj)) (xe : Value → Shared → Prop) (p1 p2 : Pos), Takes ((GCx X Ng x sg g cdg s H).nox.tr pn xe) W → DE ((GCx X Ng x sg g cdg s H).nox.tr pn xe) T W (.Call (.Name a p1) [] [] p2) (eAct L th)) → DSs (GCx X Ng x sg g cdg s H).nox T WNo bg (B L th)) :
    GivesD X T Ng x sg g cdg bg a G := by
  intro f c q ds vs th s H μ m Q act rp sto h
  refine ⟨_, (hb _ th s H act).run, μ, startD Ng.length [.lam f c q ds vs], m, startD_rep ⟨_, [], rfl, rp, rfl⟩, sto, ?_⟩
  rcases hG (.lam f c q ds vs) th m with e | e
  · rw [e] at h; exact h.elim
  · rw [← e] at h
    unfold fnD at h
    cases e : B (.lam f c q ds vs) th (startD Ng.length [.lam f c q ds vs]) m with
    | nx ρ1 m1 => rw [e] at h; exact fun μ1 H1 σ1 x1 s1 e1 => h μ1 H1 .non x1 s1 rfl
    | rt d m1 => rw [e] at h; exact h
    | bk ρ1 m1 => rw [e] at h; exact h.elim
    | ct ρ1 m1 => rw [e] at h; exact h.elim
    | ex c ns vs ρ1 m1 => rw [e] at h; exact fun μ1 H1 σ1 od x1 s1 e1 xr => h μ1 H1 od x1 s1 xr
    | no => rw [e] at h; exact h.elim
/-- x(lambda: body) -/
def eLam (G : Th → Th) (F : ES) : ES := fun ρ m => match G (F ρ) m with
  | .ok d m' => .ok d m'
  | _ => .no
section
variable {X : Cx} {pins : List (Addr × Obj)} {σ : St} {H : Hp} {s : Shared}
open LamX in
/-- a(): the lambda made at s, called in the run of the def that got it; what it lets out is taken at the slots of the moment -/
theorem act_lam {Ng : List Str} {qg : Str} {sg : Scope} {g f c' : Addr} {cdg pm ctv : Value} {params : Arguments} {body : Expr} {scope : Scope} {k : Nat} {a : Str} {pn : List (Addr × Obj)} {xe : Value → Shared → Prop} {W : WX} {tb : XK → TE} {p1 p2 : Pos}
    (I : Inv X pins σ H s) (L : LamS X.env.scope scope) (hf : s.heap.get? f = some (PySem.W.kla_obj "<lambda>" (X.env.qual ++ "<lambda>") params body scope (cloFrom X.env.cells scope.names []) pm c' ctv)) (hfn : H f = none) (hfr : f ∉ frs X.stack)
    (hbind : bindArgs (PySem.W.kla_fn "<lambda>" (X.env.qual ++ "<lambda>") params body scope (cloFrom X.env.cells scope.names []) pm (.ref c') ctv) ⟨[], []⟩ = pure [])
    (tk : Takes ((GCx X Ng qg sg g cdg s H).nox.tr pn xe) W) (hr : RmG (k + 1) (X.A.deeper (envOfC qg sg s.heap.objs.size g cdg)))
    (hbody : ∀ (A : Around) (outer : List PySem.Env) (s : Shared) (H : Hp) (E : XK), RmG k (A.deeper (lamEnv X scope s.heap.objs.size f c')) → PE (lamCx X A outer s H E scope f c') body (tb E))
    (hN : Ng[0]? = some a) (hv : Vis sg a) (hd : (a == ("__debug__" : Str)) = false) (hcd : (a == ("__classdict__" : Str)) = false) :
    PE ((GCx X Ng qg sg g cdg s H).nox.tr pn xe) (.Call (.Name a p1) [] [] p2)
      (fun σZ HZ Q => σZ[0]? = some (some (.ref f)) ∧ HZ c' = some (CodeO c' (X.env.qual ++ "<lambda>")) ∧ tb (WE W σZ) σ HZ Q) := by
  refine ⟨fun pinsZ sZ σZ HZ Q IZ ⟨h1, h2, h3⟩ => wpAny_Call_Name_kw (thn ((pe_var (pos := p1) (i := 0) hN hv hd hcd).run pinsZ sZ σZ HZ (fun v H1 => v = .ref f ∧ H1 = HZ) IZ ⟨.ref f, h1, rfl, rfl⟩) fun u s1 ⟨v, H1, I1, r1, ev, eH⟩ => ?_)⟩
  subst ev
  rw [eH] at I1
  obtain rfl : u = Value.ref f := r1
  have here : s1.heap.get? f = some (PySem.W.kla_obj "<lambda>" (X.env.qual ++ "<lambda>") params body scope (cloFrom X.env.cells scope.names []) pm c' ctv) := I1.base.keep f _ hf hfn hfr (fun z => nomatch (show f ∈ ([] : List Addr) from z))
  have un : Un (frs X.stack) [] H HZ s.heap s1.heap := I1.base
  obtain ⟨⟨oc, fs, t, g1, g2, g3⟩, _, _⟩ := I1.hok c' _ h2
  refine PySem.W.callWith_F0 ⟨_, _, _, _, here⟩ ?_
  have rc : codeAny (model X.prog X.w) (X.A.deeper (envOfC qg sg s.heap.objs.size g cdg)) (.call (.ref f) ⟨[], []⟩) (CR (L2.CX X.prog X.w) (envOfC qg sg s.heap.objs.size g cdg :: X.stack) X.prog X.w HZ s1 Q (WE W σZ)) s1 := by
    refine PySem.W.kla_callFunE hr.r.depth here rfl L.co L.gen rfl ⟨c', oc, fs, t, rfl, g1, g2, g3⟩ ?_
    rw [hbind]
    refine wpAny_pure (wpAny_newFunctionEnv (fun y hy => (L.own y hy).2) (fun y hy => absurd hy (by simp)) (fun h₁ hns hsb => ⟨I1.nolimit.fresh _ hsb, ?_⟩) L.kind)
    show codeAny _ _ (.expr body (lamEnv X scope s1.heap.objs.size f c')) _ _
    have J := lam_start2 (E := WE W σZ) (f := f) (c' := c') (tk := s1.toks + ([] : List (Str × Value)).length) I L I1.env0 hr.r.hd un hns fun b o e => hsb.extBut b o (Nat.ne_of_lt (Heap.lt_size e)) (Heap.get?_push_of_some _ e)
    exact PySem.W.kla_codeExpr (wpAny_mono ((hbody _ _ s1 HZ _ (hr.deeper _)).run [] _ _ HZ Q J h3) (fun v s' ⟨w', H', J', rv, q⟩ => ⟨w', H', J'.os, J'.bare, J'.base, J'.hok, rv, q⟩) fun e s' hq => hq)
  refine wpAny_call (codeAny_mono rc fun r s' hq => ?_)
  cases r with
  | error e => exact passAt tk σZ pinsZ HZ s1 e s' I1 hq
  | ok fl =>
    cases fl with
    | ret u => exact I1.after hq
    | next => exact False.elim hq
    | brk => exact False.elim hq
    | cont => exact False.elim hq
end
section
variable {X : Cx} {T : List (Addr × Str)} {W : WX}
open LamX in
theorem de_lam {G : Th → Th} {F : ES} {x a : Str} {g c P : Addr} {k : Nat} {pg : Arguments} {bg : List Stmt} {sg : Scope} {dV kV doc pm cdv ct oc : Value} {an od : Option Addr} {osl : Array (Option Value)} {Ng : List Str}
    {params : Arguments} {body : Expr} {scope : Scope} {p lpos pos : Pos} (hm : X.mg x = some (.ref g)) (hk : PySem.W.keepIn X.K (.ref g) = true)
    (lk : X.K.lookup g = some ⟨oc, od, .func (PySem.W.fnOf x x pg bg sg dV kV doc pm an cdv ct), osl⟩) (hcg : PySem.W.codeIn X.K cdv x = true) (hb : L2.Binds X.K (PySem.W.fnOf x x pg bg sg dV kV doc pm an cdv ct) [a] []) (Sg : FnScope Ng [a] sg)
    (hr : RmG (k + 2) X.A)
    (hG : GivesD X T Ng x sg g cdv bg a G)
    (TB : TabB X.base X.mg c P) (hcode : X.env.code = .ref c) (hmT : (P, X.env.qual ++ "<lambda>") ∈ T) (hu : ∀ p ∈ T, p.1 = P → p.2 = X.env.qual ++ "<lambda>")
    (hbody : ∀ (A : Around) (outer : List PySem.Env) (s : Shared) (H : Hp) (E : XK) (f c' : Addr), RmG k (A.deeper (lamEnv X scope s.heap.objs.size f c')) → DE (lamCx X A outer s H E scope f c') T (fun cls d _ H => E cls d H) body F)
    (hNg : Ng[0]? = some a := by rfl) (hva : Vis sg a := by first | exact Or.inl rfl | exact Or.inr (Or.inl rfl)) (L : LamS X.env.scope scope := by exact LamX.lamS_by rfl) (hdef : defaultsOf params X.env = ([], []) := by rfl)
    (hbind : ∀ (q : Str) (cl : List (Str × Addr)) (pm cv ctv : Value), bindArgs (PySem.W.kla_fn "<lambda>" q params body scope cl pm cv ctv) ⟨[], []⟩ = pure [] := by intros; rfl)
    (hg : Gl X x := by rfl) (hdb : (x == ("__debug__" : Str)) = false := by decide) (hd : (a == ("__debug__" : Str)) = false := by decide) (hcd : (a == ("__classdict__" : Str)) = false := by decide) :
    DE X T W (.Call (.Name x p) [.Lambda params body scope lpos] [] pos) (eLam G F) := by
  refine ⟨⟨fun pins s σ H Q I ⟨μ, ρ, m, er, sto, h⟩ => ?_⟩⟩
  refine wpAny_Call_Name_kw (ld_glob I hg hm ?_ hdb)
  refine PySem.W.callWith_K (h₀ := X.base) I.ok.mod.kin hk ?_ (by rfl) (by rfl)
  show wpAny _ _ (spliced ((false, eval (.Lambda params body scope lpos) X.env) :: backTo pos (starEach [] X.env))) _ _ s
  refine Calls.spliced_cons (lam_make2 I TB hcode hmT hu sto.tab hdef (L.has I.ok) fun f c' pm' ctv H1 s' I1 eN T1 hf hfn hfr hco => ?_)
  refine Calls.spliced_nil ⟨I1.kIn, ?_⟩
  have kp : Kept H H1 := ⟨fun a xs e => eN a _ e (fun ps z => by cases z), fun a o u e => eN a _ e (fun ps z => by cases z), fun a q e => eN a _ e (codeO_ne)⟩
  have x1 : Ext μ H μ H1 := ⟨List.prefix_refl _, kp, fun b o e _ => by
    by_cases hb : ∃ ps, o = .tbl ps
    · exact .inr hb
    · exact .inl (eN b o e fun ps z => hb ⟨ps, z⟩), fun b hb hn => absurd hb hn⟩
  have s1 : Sto T X.K μ H1 m := ⟨sto.len, sto.nd, fun n d b e1 e2 => ?_, T1⟩
  · have e1' := er.ext x1
    have rp : Rep X.K μ H1 (.lam f c' (X.env.qual ++ "<lambda>") (packD ρ) (packV ρ σ)) (.ref f) := ⟨rfl, hco, pack_rep e1'⟩
    have hpo : Post (Rep X.K) T X.K WNo [] μ H1 (G (F ρ) m) Q := by
      unfold eLam at h
      cases e : G (F ρ) m with
      | ok d m' => rw [e] at h; exact Post.ext (rp := Rep X.K) (W := WNo) (σ := []) (r := R.ok d m') x1 h
      | exc c ns vs m' => rw [e] at h; exact h.elim
      | no => rw [e] at h; exact h.elim
    have rc : codeAny (model X.prog X.w) X.A (.call (.ref g) ⟨[.ref f], []⟩) (CR C8.CX0 X.stack X.prog X.w H1 s' Q C8.E0) s' := by
      refine run_ofS (N := Ng) (ps := [a]) (us := [.ref f]) (vs := [.ref f]) lk hcg Sg hr.r I1.env0 (hb s' [.ref f] I1.kIn rfl) (.cons rfl .nil) rfl fun hr0 => ?_
      have hr' : RmG (k + 1) (X.A.deeper (envOfC x sg s'.heap.objs.size g cdv)) := ⟨hr0, hr.g⟩
      have act : ∀ (W : WX) (pn : List (Addr × Obj)) (xe : Value → Shared → Prop) (p1 p2 : Pos), Takes ((GCx X Ng x sg g cdv s' H1).nox.tr pn xe) W → DE ((GCx X Ng x sg g cdv s' H1).nox.tr pn xe) T W (.Call (.Name a p1) [] [] p2) (eAct (.lam f c' (X.env.qual ++ "<lambda>") (packD ρ) (packV ρ σ)) (F ρ)) := by
        intro W pn xe p1 p2 tk
        refine ⟨(act_lam (tb := fun E => tG (Rep X.K) T X.K (fun cls d _ H => E cls d H) F) I1 L hf hfn hfr (hbind _ _ _ _ _) tk hr' (fun A outer s H E hr2 => (hbody A outer s H E f c' hr2).run) hNg hva hd hcd).weak fun σZ HZ Q' ⟨μZ, ρZ, mZ, eZ, sZ, hZ⟩ => ?_⟩
        unfold eAct at hZ
        split at hZ
        · rename_i hL
          obtain ⟨v, hv, rv⟩ := eZ.get 0 _ hL
          obtain ⟨rfl, hc, rds⟩ := rv
          refine ⟨hv, hc, μZ, ρ, mZ, unpack_rep er.len (fun i d e => let ⟨v, e1, _⟩ := er.get i d e; ⟨v, e1⟩) rds, sZ, ?_⟩
          cases e : F ρ mZ with
          | ok d m' => rw [e] at hZ; exact hZ
          | exc c ns vs m' => rw [e] at hZ; exact hZ
          | no => rw [e] at hZ; exact hZ.elim
        · exact hZ.elim
      obtain ⟨t', ht', hq'⟩ := hG f c' (X.env.qual ++ "<lambda>") (packD ρ) (packV ρ σ) (F ρ) s' H1 μ m Q act rp s1 hpo
      exact ⟨t', ht'.nox, hq'⟩
    refine wpAny_call (codeAny_mono rc fun r s2 hq => ?_)
    cases r with
    | error e => exact (show False from hq).elim
    | ok fl =>
      cases fl with
      | ret u => exact I1.after hq
      | next => exact False.elim hq
      | brk => exact False.elim hq
      | cont => exact False.elim hq
  · refine (sto.rep n d b e1 e2).keep kp (List.prefix_refl _) fun o e n => eN b o e n
end

/-! ### try: .. / except x as n: .. -/
def RS.unset (i : Nat) (r : RS) : RS :=
  match r with
  | .nx ρ m => .nx (ρ.set i none) m
  | .bk ρ m => .bk (ρ.set i none) m
  | .ct ρ m => .ct (ρ.set i none) m
  | .rt d m => .rt d m
  | _ => .no
/-- a result that does not hang on the address -/
noncomputable def agree (f : Addr → RS) : RS := open Classical in if ∀ a, f a = f 0 then f 0 else .no
theorem agree_of {f : Addr → RS} {r : RS} (h : ∀ a, f a = r) : agree f = r := by
  unfold agree
  rw [if_pos (fun a => (h a).trans (h 0).symm)]
  exact h 0
theorem agree_at {f : Addr → RS} (h : agree f ≠ .no) (a : Addr) : agree f = f a := by
  unfold agree at h ⊢
  split at h
  · rename_i e
    rw [if_pos e, e a]
  · exact absurd rfl h
noncomputable def sTryAs (B : SS) (i : Nat) (ok : Addr → Option Bool) (S : Addr → Addr → SS) : SS := fun ρ m => match B ρ m with
  | .ex c ns vs ρ1 m1 => (match ok c, ns with
    | some true, [] => agree fun a => (S a c (ρ1.set i (some (.ref a))) m1).unset i
    | some false, ns => .ex c ns vs ρ1 m1
    | _, _ => .no)
  | r => r
section
variable {X : Cx} {T : List (Addr × Str)} {W : WX}
theorem ds_tryAs {x n : Str} {C : Addr} {i : Nat} {body suite : List Stmt} {b₀ : Stmt} {np pos pos' : Pos} {B : SS} {S : Addr → Addr → SS} (hN : X.N.Nodup) (hm : X.mg x = some (.ref C)) (tk : Takes X W)
    (hb : ∀ (W : WX) (pn : List (Addr × Obj)) (xe : Value → Shared → Prop), Takes (X.tr pn xe) W → DSs (X.tr pn xe) T W body B)
    (hS : ∀ (a : Addr) (oe : Obj) (c : Addr) (pn : List (Addr × Obj)), Zc (.ref c) none oe → (∃ vs, oe.data = .fields vs) → DSs (X.suite a ((a, oe) :: pn)) T WNo (b₀ :: suite) (S a c))
    (hs : X.stack = X.env :: X.outer := by rfl) (hf : X.env.frame = some X.env.locals := by rfl) (hi : X.N[i]? = some n := by rfl) (hln : X.env.kindOf n = some .local := by rfl) (hg : Gl X x := by rfl) (hd : (x == ("__debug__" : Str)) = false := by decide) :
    DS X T W (.Try body [.ExceptHandler (some (.Name x np)) (some n) (b₀ :: suite) pos'] [] [] pos) (sTryAs B i (fun c => PySem.W.exmOne X.K (.ref c) (.ref C)) S) := by
  refine ⟨(ps_try_as hs hf hN hi hln ⟨hg, hd, .inl hm⟩ tk (tb := fun W => tS X.K T W B) (ts := fun a cls d => fun D σ H => ∃ c, cls = .ref c ∧ d = none ∧ tS X.K T WNo (S a c) D σ H) (fun W pn xe tk' _ => (hb W pn xe tk').run) (fun a oe cls d pn hz hv => ?_)).weak fun Z σ H ⟨μ, ρ, m, er, s, q⟩ => ?_⟩
  · refine ⟨fun pins s σ H D I ⟨c, e1, e2, h⟩ => ?_⟩
    subst e1 e2
    exact (hS a oe c pn hz hv).run.run pins s σ H D I h
  · refine ⟨μ, ρ, m, er, s, ?_⟩
    unfold sTryAs at q
    cases e : B ρ m with
    | nx ρ1 m1 => rw [e] at q; exact q
    | rt d m1 => rw [e] at q; exact q
    | bk ρ1 m1 => rw [e] at q; exact q
    | ct ρ1 m1 => rw [e] at q; exact q
    | no => rw [e] at q; exact q.elim
    | ex c ns vs ρ1 m1 =>
      rw [e] at q
      intro μ1 H1 σ1 od x1 s1 e1 xr
      dsimp only at q
      split at q
      · rename_i hk
        refine ⟨true, hk, fun _ a ha => ?_, fun z => by cases z⟩
        rcases xr with ⟨_, _, rfl⟩ | ⟨n1, _⟩
        · refine ⟨c, rfl, rfl, μ1, _, m1, e1.set (show Rep X.K μ1 H1 (.ref a) (.ref a) from rfl), s1, ?_⟩
          have ne : (agree fun a => (S a c (ρ1.set i (some (.ref a))) m1).unset i) ≠ .no := fun z => by rw [z] at q; exact q.elim
          rw [agree_at ne a] at q
          cases e2 : S a c (ρ1.set i (some (.ref a))) m1 with
          | nx ρ2 m2 => rw [e2] at q; exact fun μ2 H2 σ2 x2 s2 e2 => q μ2 H2 _ (x1.trans x2) s2 e2.unset
          | rt d m2 => rw [e2] at q; exact fun μ2 H2 v x2 s2 r2 => q μ2 H2 v (x1.trans x2) s2 r2
          | bk ρ2 m2 => rw [e2] at q; exact fun μ2 H2 σ2 x2 s2 e2 => q μ2 H2 _ (x1.trans x2) s2 e2.unset
          | ct ρ2 m2 => rw [e2] at q; exact fun μ2 H2 σ2 x2 s2 e2 => q μ2 H2 _ (x1.trans x2) s2 e2.unset
          | ex c' ns' vs' ρ2 m2 => rw [e2] at q; exact q.elim
          | no => rw [e2] at q; exact q.elim
        · exact absurd rfl n1
      · rename_i hk
        exact ⟨false, hk, fun z => (by cases z), fun _ => q μ1 H1 σ1 od x1 s1 e1 xr⟩
      · exact q.elim
/-- an own class by its name -/
theorem de_cls {x : Str} {c : Addr} {pos : Pos} (h : X.mg x = some (.ref c)) (hg : Gl X x := by rfl) (hd : (x == ("__debug__" : Str)) = false := by decide) : DE X T W (.Name x pos) (eC (.ref c)) :=
  de_c (v := V.ref c) (pe_glob hg h rfl hd) fun _ _ => rfl
end
/-! ### isinstance of the error at hand -/
def clsV : D → Option Value
  | .ref k => some (.ref k)
  | .ty n => some (.type n)
  | _ => none
noncomputable def isED (K : PySem.W.Frag) (a c : Addr) : FS := fun ds m => open Classical in match ds with
  | [.ref a', k] => if a' = a ∧ ExcC K c then (match clsV k with
    | some cv => (match PySem.W.kitOne K (.ref c) cv with
      | some b => .ok (.bl b) m
      | none => .no)
    | none => .no) else .no
  | _ => .no
section
variable {X : Cx} {T : List (Addr × Str)}
theorem cr_isE {a c : Addr} {oe : Obj} {pn : List (Addr × Obj)} (hz : Zc (.ref c) none oe) (hf : ∃ vs, oe.data = .fields vs) : CallR (X.suite a ((a, oe) :: pn)) (.builtin "isinstance") (fun xs H Q => ExcC X.K c ∧ rIsE X.K c a xs H Q) :=
  fun pins s σ H xs us Q I r ⟨hE, h⟩ => call_isE hE hz hf pins s σ H xs us Q I r h
theorem isED_ok {Y : Cx} {a c : Addr} : ArD Y T (isED Y.K a c) (fun xs H Q => ExcC Y.K c ∧ rIsE Y.K c a xs H Q) := by
  intro W σ μ H m ds xs Q S r q
  unfold isED at q
  split at q
  · obtain ⟨v, u, rfl, r1, r2⟩ := repL2 r
    split at q
    · rename_i hc
      obtain ⟨rfl, hE⟩ := hc
      cases r1
      split at q
      · rename_i cv hk
        split at q
        · rename_i b hb
          refine ⟨hE, u, cv, b, rfl, ?_, hb, post_here (rp := Rep Y.K) S (show Rep Y.K μ H (.bl b) (.bl b) from rfl) q⟩
          unfold clsV at hk
          split at hk
          · cases hk; cases r2; exact fun u h => h
          · cases hk; cases r2; exact fun u h => h
          · cases hk
        · exact q.elim
      · exact q.elim
    · exact q.elim
  · exact q.elim
end
end DL


/-! DLl: sorted of a dict's items, of a list of ints, of a dict. -/
namespace DL
open PySem PySem.Spec L2
open PyProof.Rows hiding St

/-! ### tuples just made are known from now on -/
theorem takeF {X : Cx} {pins : List (Addr × Obj)} {σ : St} {H0 : Hp} {s : Shared} {h' : Heap} {tk : Nat} {P : Addr → Obj → List V → Prop} (I0 : Inv X pins σ H0 s) : ∀ (L : List Addr) (H1 : Hp), Inv X pins σ H1 { s with heap := h', toks := tk } → L.Nodup →
    (∀ a ∈ L, s.heap.objs.size ≤ a ∧ H1 a = none ∧ ∃ o vs, P a o vs ∧ ∀ H2, ObjOk X.prog X.w H2 h' a (.frz o (.tup vs))) →
    ∃ H2, Inv X pins σ H2 { s with heap := h', toks := tk } ∧ (∀ b o, H1 b = some o → H2 b = some o) ∧ ∀ a ∈ L, ∃ o vs, P a o vs ∧ H2 a = some (.frz o (.tup vs))
  | [], H1, I1, _, _ => ⟨H1, I1, fun _ _ e => e, fun _ h => nomatch h⟩
  | a :: L, H1, I1, hn, h => by
    obtain ⟨hb, hnone, o, vs, hP, ok⟩ := h a List.mem_cons_self
    rw [List.nodup_cons] at hn
    obtain ⟨H2, I3, g, q⟩ := takeF I0 L _ (I1.take (h' := h') (t' := tk) (fun b ob _ e => e) (I0.fpOk hb hnone) (ok _)) hn.2 fun c hc => by
      obtain ⟨c1, c2, c3⟩ := h c (List.mem_cons_of_mem _ hc)
      exact ⟨c1, by rw [upd_ne (fun z => hn.1 (by rw [← z]; exact hc))]; exact c2, c3⟩
    refine ⟨H2, I3, fun b u e => g b u (by rw [upd_ne (ne_of_none e hnone)]; exact e), fun c hc => ?_⟩
    rcases List.mem_cons.mp hc with rfl | hc
    · exact ⟨o, vs, hP, g _ _ upd_same⟩
    · exact q c hc

/-! ### pairs of ints -/
def pairLe (p q : Int × Int) : Bool := !SrtO.lexB q p
theorem pairLe_trans (a b c : Int × Int) (h1 : pairLe a b = true) (h2 : pairLe b c = true) : pairLe a c = true := by
  unfold pairLe at *
  rw [Bool.not_eq_true'] at *
  have a1 := SrtO.lexB_no.mp h1
  have a2 := SrtO.lexB_no.mp h2
  refine SrtO.lexB_no.mpr ?_
  omega
theorem pairLe_total (a b : Int × Int) : (pairLe a b || pairLe b a) = true := by
  cases h : pairLe a b
  · unfold pairLe at *
    rw [Bool.not_eq_false'] at h
    have a1 := SrtO.lexB_iff.mp h
    rw [Bool.false_or, Bool.not_eq_true']
    refine SrtO.lexB_no.mpr ?_
    omega
  · rfl
theorem pairLe_anti {a b : Int × Int} (h1 : pairLe a b = true) (h2 : pairLe b a = true) : a = b := by
  unfold pairLe at *
  rw [Bool.not_eq_true'] at *
  have a1 := SrtO.lexB_no.mp h1
  have a2 := SrtO.lexB_no.mp h2
  obtain ⟨a, b⟩ := a
  rename_i y
  obtain ⟨c, d⟩ := y
  simp only at a1 a2
  have : a = c := by omega
  have : b = d := by omega
  subst_vars
  rfl
def isort (l : List (Int × Int)) : List (Int × Int) := l.mergeSort pairLe
theorem isort_uniq {l zs : List (Int × Int)} (p : zs.Perm l) (s : zs.Pairwise fun a b => pairLe a b = true) : zs = isort l :=
  List.Perm.eq_of_pairwise (le := fun a b => pairLe a b = true) (fun a b _ _ h1 h2 => pairLe_anti h1 h2) s (List.pairwise_mergeSort pairLe_trans pairLe_total l) (p.trans (List.mergeSort_perm l pairLe).symm)

/-! ### o.items(), of ints -/
def rItemsK : V → List V → Hp → VK → Prop := fun x xs H Q => ∃ (a : Addr) (kvs : List (Key × V)), x = .ref a ∧ xs = [] ∧ Rd H a (.dK kvs) ∧ ∀ p, H p = none → Q (.ref p) (upd H p (L2.DX.itemsO p a))
section
variable {X : Cx}
theorem mt_itemsK : MtR X "dict.items" rItemsK := by
  intro pins s σ H x xs v us Q I rx rxs h
  obtain ⟨a, kvs, rfl, rfl, ha, q⟩ := h
  cases rx
  cases rxs
  obtain ⟨z, lo, vs, rel, dd⟩ := dk_rd I.hok ha
  obtain ⟨es, ep, ⟨o, h1, h2, h3⟩, _⟩ := PySem.Heap.DictOf.raw dd
  exact DT.callItems (es := es) (ep := ep) lo ⟨o, h1, h2, h3⟩ ⟨.ref _, _, I.laid (t' := s.toks) (fun b u e => Heap.get?_push_of_some _ e) (Nat.le_refl _) (L2.DX.itemsO_ok (Heap.get?_push_size _ rfl)), rfl, q _ (I.hok.fresh (Nat.le_refl _))⟩
def pairV (z : Int × Int) : Key × V := (.inl z.1, .int z.2)
def rSortItK : List V → Hp → VK → Prop := fun xs H Q => ∃ (p a : Addr) (ks : List (Int × Int)), xs = [.ref p] ∧ H p = some (L2.DX.itemsO p a) ∧ Rd H a (.dK (ks.map pairV)) ∧
  ∀ (H' : Hp) (l : Addr) (bs : List Addr), H l = none → (∀ b o, H b = some o → H' b = some o) → H' l = some (.lst (bs.map V.ref)) → bs.length = (isort ks).length →
    (∀ (j : Nat) (b : Addr) (z : Int × Int), bs[j]? = some b → (isort ks)[j]? = some z → ∃ o, H' b = some (.frz o (.tup [.int z.1, .int z.2])) ∧ o.dict = none) → Q (.ref l) H'
/-- the pair behind an address -/
def pk (l : List (Addr × (Int × Int))) : Value → Int × Int
  | .ref b => (l.lookup b).getD (0, 0)
  | _ => (0, 0)
theorem lookup_zip : ∀ {as : List Addr} {ks : List (Int × Int)} {j : Nat} {b : Addr} {z : Int × Int}, as.Nodup → as[j]? = some b → ks[j]? = some z → (as.zip ks).lookup b = some z
  | [], _, _, _, _, _, h, _ => by simp at h
  | _ :: _, [], _, _, _, _, _, h => by simp at h
  | a :: as, k :: ks, 0, b, z, _, h1, h2 => by
    simp at h1 h2
    subst h1 h2
    simp [List.lookup]
  | a :: as, k :: ks, j + 1, b, z, hn, h1, h2 => by
    rw [List.nodup_cons] at hn
    have ne : (b == a) = false := by
      refine beq_eq_false_iff_ne.mpr fun e => hn.1 ?_
      subst e
      exact List.mem_of_getElem? (show as[j]? = some b by simpa using h1)
    rw [List.zip_cons_cons, List.lookup, ne]
    exact lookup_zip hn.2 (by simpa using h1) (by simpa using h2)
theorem cr_sortItK (hc : X.calm = true) : CallR X (.builtin "sorted") rSortItK := by
  intro pins s σ H xs us Q I r h
  obtain ⟨p, a, ks, rfl, hp, ha, q⟩ := h
  obtain rfl := Vals.ref1 r
  have view : s.heap.IsItemsView p a := (show ObjOk X.prog X.w H s.heap p (L2.DX.itemsO p a) from I.hok p _ hp).1
  obtain ⟨z, lo, vs, rel, dd⟩ := dk_rd I.hok ha
  obtain ⟨es, ep, ⟨o, e1, e2, e3⟩, hsz, hent⟩ := PySem.Heap.DictOf.raw dd
  have hl : vs.length = ks.length := by
    have := Paired.length rel
    rw [List.length_map] at this
    exact this.symm
  rw [List.length_map] at z
  refine DT.sortedI (es := es) (ep := ep) (I.ok.hd hc) view ⟨o, e1, e2, e3⟩ (by omega) fun h' tk as hk hlt hal hG => ?_
  have lak : as.length = ks.length := by omega
  have nd : as.Nodup := hG.rise.imp fun h => Nat.ne_of_lt h
  -- the pair at an address
  have at_ : ∀ (j : Nat) (b : Addr), as[j]? = some b → ∃ z t u, ks[j]? = some z ∧ h'.get? b = some { cls := .type "tuple", data := .seq #[Value.int z.1 t, Value.int z.2 u] } := by
    intro j b hj
    obtain ⟨en, he, hg⟩ := hG.pairs j b hj
    obtain ⟨hi, ei⟩ := Array.getElem?_eq_some_iff.mp he
    have hjv : j < vs.length := by omega
    obtain ⟨hkey, hval⟩ := hent j hi vs[j].1 vs[j].2 (List.getElem?_eq_getElem hjv)
    obtain ⟨y, hy, r1, r2⟩ := L2.DX.pget rel (List.getElem?_eq_getElem hjv)
    rw [List.getElem?_map] at hy
    cases hkj : ks[j]? with
    | none => rw [hkj] at hy; cases hy
    | some z =>
      rw [hkj] at hy
      cases hy
      rw [← r1] at hkey
      rw [← hval] at r2
      have hkey : keyIs (Sum.inl z.1) es[j].key = true := hkey
      rcases keyIs_shape hkey with ⟨i, t, g1, g2⟩ | ⟨x, t, g1, _⟩
      · cases g1
        obtain ⟨u, g3⟩ := r2
        rw [ei] at g2 g3
        rw [g2, g3] at hg
        exact ⟨z, t, u, rfl, hg⟩
      · cases g1
  have hob : (h'.push { cls := .type "list", data := .seq (as.map Value.ref).toArray }).get? h'.objs.size = some (seqObj "list" (as.map Value.ref).toArray 0) := Heap.get?_push_size _ rfl
  have ka : ∀ b o, h'.get? b = some o → (h'.push { cls := .type "list", data := .seq (as.map Value.ref).toArray }).get? b = some o := fun b o e => Heap.get?_push_of_some _ e
  have ne0 : ∀ b o, h'.get? b = some o → b ≠ h'.objs.size := fun b o e => Nat.ne_of_lt (Heap.lt_size e)
  generalize h'.push { cls := .type "list", data := .seq (as.map Value.ref).toArray } = h2 at hob ka ⊢
  have pkey : ∀ (j : Nat) (b : Addr) (z : Int × Int), as[j]? = some b → ks[j]? = some z → pk (as.zip ks) (.ref b) = z := fun j b z h1 h2 => by
    show ((as.zip ks).lookup b).getD (0, 0) = z
    rw [lookup_zip nd h1 h2]
    rfl
  refine wpAny_call_entry PyProof.Rows.slot_list_sort ⟨_, hob, rfl⟩ PyProof.Rows.entry_list_sort
    (SrtO.list_sort_ord (s := { s with heap := h2, toks := tk }) (SrtO.swo_lex (pk (as.zip ks))) hob (by rw [List.length_map]; omega) (fun l2 => SrtO.pairs_sortableO (by omega) (fun v hv => ?_) fun o e => ?_) fun out o1 o2 => ⟨.none, rfl, ?_⟩) (PyProof.Rows.args_list_sort _)
  · obtain ⟨b, hb, rfl⟩ := List.mem_map.mp hv
    obtain ⟨j, hj⟩ := List.mem_iff_getElem?.mp hb
    obtain ⟨z, t, u, hz, hg⟩ := at_ j b hj
    rw [pkey j b z hj hz]
    exact ⟨b, _, t, u, 0, rfl, ka _ _ hg, rfl, rfl⟩
  · have e' := e.symm.trans hob
    cases e'
    intro c
    exact absurd (Value.type.inj c) (by decide)
  · show EP X pins σ Q (.ref h'.objs.size) { s with heap := sortedHeap h2 h'.objs.size (as.map Value.ref) out.toArray, toks := tk }
    have kF : ∀ b o, b ≠ h'.objs.size → h2.get? b = some o → (sortedHeap h2 h'.objs.size (as.map Value.ref) out.toArray).get? b = some o := fun b o hb e => (PyProof.Rows.sortedHeap_old hb (Heap.lt_size e)).trans e
    have kS : ∀ b o, s.heap.get? b = some o → (sortedHeap h2 h'.objs.size (as.map Value.ref) out.toArray).get? b = some o := fun b o e => kF b o (ne0 _ _ (hk b o e)) (ka _ _ (hk b o e))
    obtain ⟨eF, heF⟩ := PyProof.Rows.sortedHeap_at (vs := as.map Value.ref) (out := out.toArray) hob
    -- the addresses in their order
    obtain ⟨bs, rfl⟩ : ∃ bs : List Addr, out = bs.map Value.ref := by
      have all : ∀ v ∈ out, ∃ b, v = Value.ref b := fun v hv => by
        obtain ⟨b, _, e⟩ := List.mem_map.mp (o2.perm.mem_iff.mp hv)
        exact ⟨b, e.symm⟩
      clear o1 o2 eF heF kF kS
      induction out with
      | nil => exact ⟨[], rfl⟩
      | cons v l ih =>
        obtain ⟨b, rfl⟩ := all v List.mem_cons_self
        obtain ⟨bs, rfl⟩ := ih fun u hu => all u (List.mem_cons_of_mem _ hu)
        exact ⟨b :: bs, rfl⟩
    have inj : ∀ {l k : List Addr}, (l.map Value.ref).Perm (k.map Value.ref) → l.Perm k := fun {l k} h => by
      have := h.map fun v => match v with | Value.ref b => b | _ => 0
      simpa [List.map_map, Function.comp_def] using this
    have pb : bs.Perm as := inj o2.perm
    have hz : (bs.map fun b => pk (as.zip ks) (.ref b)) = isort ks := by
      refine isort_uniq ?_ ?_
      · refine (pb.map _).trans ?_
        have e : (as.map fun b => pk (as.zip ks) (.ref b)) = ks := by
          refine List.ext_getElem? fun j => ?_
          rw [List.getElem?_map]
          cases hj : as[j]? with
          | none => rw [List.getElem?_eq_none_iff] at hj; rw [Option.map_none, eq_comm, List.getElem?_eq_none_iff]; omega
          | some b =>
            obtain ⟨z, _, _, hz, _⟩ := at_ j b hj
            rw [Option.map_some, pkey j b z hj hz, hz]
        rw [e]
      · rw [List.pairwise_map]
        have := List.pairwise_map.mp o1
        exact this.imp fun {x y} h => by unfold pairLe; rw [Bool.not_eq_true']; exact h
    have I1 : Inv X pins σ H { s with heap := sortedHeap h2 h'.objs.size (as.map Value.ref) (bs.map Value.ref).toArray, toks := tk } := I.kept (t' := tk) kS
    have hn0 : H h'.objs.size = none := I.hok.fresh (Nat.le_of_lt hlt)
    have blen : bs.length = ks.length := by rw [pb.length_eq, lak]
    have rv : Vals (bs.map V.ref) (bs.map Value.ref) := vals_maps (fun b : Addr => V.ref b) (fun b => Value.ref b) bs fun _ _ => rfl
    have I2 := I1.take (h' := sortedHeap h2 h'.objs.size (as.map Value.ref) (bs.map Value.ref).toArray) (t' := tk) (o := .lst (bs.map V.ref)) (fun b ob _ e => e) (I.fpOk (Nat.le_of_lt hlt) hn0) ⟨by rw [List.length_map]; omega, _, eF, rv, heF⟩
    obtain ⟨H2, I3, g, qt⟩ := takeF (P := fun b o vs => ∃ (j : Nat) (z : Int × Int), as[j]? = some b ∧ ks[j]? = some z ∧ vs = [.int z.1, .int z.2] ∧ o.dict = none) I as _ I2 nd fun b hb => by
      obtain ⟨j, hj⟩ := List.mem_iff_getElem?.mp hb
      obtain ⟨z, t, u, hz, hg⟩ := at_ j b hj
      have hb0 : s.heap.objs.size ≤ b := Nat.le_of_lt (hG.above b hb)
      have hb1 := kF b _ (ne0 _ _ hg) (ka _ _ hg)
      exact ⟨hb0, by rw [upd_ne (ne0 _ _ hg)]; exact I.hok.fresh hb0, _, _, ⟨j, z, hj, hz, rfl, rfl⟩, fun H2 => ⟨hb1, by show 2 ≤ sizeLine; decide, _, .cons ⟨t, rfl⟩ (.cons ⟨u, rfl⟩ .nil), _, hb1, rfl, _, rfl⟩⟩
    refine ⟨.ref h'.objs.size, H2, I3, rfl, q H2 h'.objs.size bs hn0 (fun b u e => g b u (by rw [upd_ne (ne_of_none e hn0)]; exact e)) (g _ _ upd_same) (by rw [← hz, List.length_map]) fun j b z h1 h2 => ?_⟩
    have hb : b ∈ as := pb.mem_iff.mp (List.mem_of_getElem? h1)
    obtain ⟨o, vs, ⟨i, y, i1, i2, rfl, hd⟩, e⟩ := qt b hb
    rw [← hz, List.getElem?_map, h1, Option.map_some, pkey i b y i1 i2] at h2
    cases h2
    exact ⟨o, e, hd⟩
end

/-! ### sorted, as the trees have it -/
def intPairs : List Key → List D → Option (List (Int × Int))
  | [], [] => some []
  | .inl k :: ks, .int v :: vs => (intPairs ks vs).map ((k, v) :: ·)
  | _, _ => none
theorem intPairs_rep {K : PySem.W.Frag} {μ : List Addr} {H : Hp} : ∀ {ks : List Key} {vs : List D} {l : List (Int × Int)} {xs : List V}, RepL K μ H vs xs → intPairs ks vs = some l → ks.zip xs = l.map pairV
  | [], [], _, _, r, e => by cases e; cases r; rfl
  | [], _ :: _, _, _, _, e => by simp [intPairs] at e
  | _ :: _, [], _, _, _, e => by simp [intPairs] at e
  | .inr _ :: _, _ :: _, _, _, _, e => by simp [intPairs] at e
  | .inl k :: ks, d :: vs, l, _, r, e => by
    cases d with
    | int v =>
      obtain ⟨x, xs, rfl, r1, r2⟩ := r
      cases r1
      unfold intPairs at e
      cases h : intPairs ks vs with
      | none => rw [h] at e; cases e
      | some l' =>
        rw [h] at e
        cases e
        rw [List.zip_cons_cons, intPairs_rep r2 h]
        rfl
    | _ => simp [intPairs] at e
def pairD (z : Int × Int) : D := .tup [.int z.1, .int z.2]
theorem pairs_repL {K : PySem.W.Frag} {μ : List Addr} {H : Hp} : ∀ {l : List (Int × Int)} {bs : List Addr}, bs.length = l.length → (∀ (j : Nat) (b : Addr) (z : Int × Int), bs[j]? = some b → l[j]? = some z → ∃ o, H b = some (.frz o (.tup [.int z.1, .int z.2])) ∧ o.dict = none) → RepL K μ H (l.map pairD) (bs.map V.ref)
  | [], [], _, _ => rfl
  | [], _ :: _, e, _ => by cases e
  | _ :: _, [], e, _ => by cases e
  | z :: l, b :: bs, e, h => by
    obtain ⟨o, h1, h2⟩ := h 0 b z rfl rfl
    exact ⟨_, _, rfl, ⟨b, _, rfl, .inl ⟨o, h1, h2⟩, ⟨_, _, rfl, rfl, ⟨_, _, rfl, rfl, rfl⟩⟩⟩, pairs_repL (Nat.succ.inj e) fun j b z h1 h2 => h (j + 1) b z h1 h2⟩
def eSortIt (Fo : ES) : ES := fun ρ m => (Fo ρ m).bind fun o m1 => match dicOf m1 o with
  | some (ks, vs) => (match intPairs ks vs with
    | some l => .ok (.lst ((isort l).map pairD)) m1
    | none => .no)
  | none => .no
section
variable {X : Cx} {T : List (Addr × Str)} {W : WX}
theorem de_sortIt {o : Expr} {p pos apos cpos : Pos} {Fo : ES} (hc : X.calm = true) (hm : X.mg "sorted" = none) (ho : DE X T W o Fo) (hg : Gl X "sorted" := by rfl)
    (hbase : attributeBase o "items" X.env (eval o X.env) = eval o X.env := by rfl) (hline : (apos.endLine == cpos.line) = true := by rfl)
    (he : starEach [.Call (.Attribute o "items" apos) [] [] cpos] X.env = (false, eval (.Call (.Attribute o "items" apos) [] [] cpos) X.env) :: starEach [] X.env := by rfl) :
    DE X T W (.Call (.Name "sorted" p) [.Call (.Attribute o "items" apos) [] [] cpos] [] pos) (eSortIt Fo) := by
  have hi : PE X (.Call (.Attribute o "items" apos) [] [] cpos) (tMt X.K "dict" rItemsK (tG (Rep X.K) T X.K W Fo) tNil) := pe_mt0 PySem.F.plainAttrs_dict PySem.F.slot_dict_items PySem.F.type_dict_items mt_itemsK ho.run hbase hline
  refine ⟨(pe_callB (cr_sortItK hc).frz hg hm (by decide +kernel) (pa_cons hi pa_nil he)).weak fun σ H Q ⟨μ, ρ, m, er, s, q⟩ => tG_mk er s (q.bind fun d m1 μ1 H1 x x1 s1 r1 q1 => ?_)⟩
  split at q1
  · rename_i ks vs hd
    split at q1
    · rename_i l hl
      obtain ⟨a, xs, rfl, rd, hlen, rl⟩ := dicOf_rep s1 r1 hd
      refine ⟨.inr ⟨rfl, a, _, rfl, rd⟩, a, _, rfl, rfl, rd, fun p hp => ?_⟩
      have x2 : Ext μ1 H1 μ1 (upd H1 p (L2.DX.itemsO p a)) := .new hp
      rw [intPairs_rep rl hl] at rd
      refine ⟨p, a, l, rfl, upd_same, ?_, fun H' l' bs hn kp hl' hbl hbs => ?_⟩
      · rcases rd with e | ⟨o, e⟩
        · exact .inl (by rw [upd_ne (ne_of_none e hp)]; exact e)
        · exact .inr ⟨o, by rw [upd_ne (ne_of_none e hp)]; exact e⟩
      · have kp0 : ∀ b o, H1 b = some o → H' b = some o := fun b o e => kp b o (by rw [upd_ne (ne_of_none e hp)]; exact e)
        refine .inr ⟨l', _, rfl, hl', trivial, fun od => ?_⟩
        have nl : H1 l' = none := by
          by_cases z : l' = p
          · rw [z]; exact hp
          · rw [upd_ne z] at hn; exact hn
        have kp1 : ∀ b o, H1 b = some o → upd H' l' (.frz od (.lst (bs.map V.ref))) b = some o := fun b o e => by rw [upd_ne (ne_of_none e nl)]; exact kp0 b o e
        have x3 : Ext μ1 H1 μ1 (upd H' l' (.frz od (.lst (bs.map V.ref)))) := ⟨List.prefix_refl _, ⟨fun a xs e => kp1 _ _ e, fun a o u e => kp1 _ _ e, fun c q e => kp1 _ _ e⟩, fun b o e _ => .inl (kp1 _ _ e), fun b h n => absurd h n⟩
        have s3 : Sto T X.K μ1 (upd H' l' (.frz od (.lst (bs.map V.ref)))) m1 := ⟨s1.len, s1.nd, fun n c b e1 e2 => (s1.rep n c b e1 e2).keep x3.kept (List.prefix_refl _) fun o e _ => kp1 _ _ e, s1.tab.ext kp1⟩
        refine q1 μ1 _ _ x3 s3 ⟨l', _, rfl, ⟨od, upd_same⟩, pairs_repL hbl fun j b z h1 h2 => ?_⟩
        obtain ⟨o, e1, e2⟩ := hbs j b z h1 h2
        refine ⟨o, ?_, e2⟩
        rw [upd_ne]
        · exact e1
        · intro z
          rw [z, hl'] at e1
          cases e1
    · exact q1.elim
  · exact q1.elim
end
end DL


/-! DLm: sorted(set(a list of ints)); sorted of a dict's int keys; sorted of a list of ints. -/
namespace DL
open PySem PySem.Spec L2
open PyProof.Rows hiding St
section
variable {P : Program} {w : World} {A : Around} {E : Value → Shared → Prop} {s : Shared}
/-- the object that set.__new__ lays -/
abbrev set0 (w : World) : Obj := { cls := .type "set", dict := none, data := .set #[] 0 (.fresh 0 0 (!w.params.followText "set-order")) }
set_option maxHeartbeats 3200000 in
/-- set(l), l a list of ints (the road is call_set_tupI's, for a list) -/
theorem call_set_lstI {l : Addr} {items : Array Value} (ns : List Int) {Q : Value → Shared → Prop} (hh : A.handled = none) (hl : s.heap.IsList l items) (hit : IntsAre items.toList ns) (hb : ns.length + 1 < scanBound)
    (h : ∀ (h' : Heap) (tk c : Nat), SetR w h' s.heap.objs.size (fun j => decide (j ∈ ns)) c → c ≤ ns.length → (∀ b o, s.heap.get? b = some o → h'.get? b = some o) → Q (.ref s.heap.objs.size) { s with heap := h', toks := tk }) :
    wpAny (model P w) A (call (.type "set") [.ref l]) Q E s := by
  have hisz : items.size = ns.length := by
    rw [← IntsAre.length hit, Array.length_toList]
  have hlS : l < s.heap.objs.size := let ⟨_, e, _⟩ := hl; Heap.lt_size e
  obtain ⟨c, tl, hmro⟩ := F.called_set.mro
  have hmade := F.called_set.made
  have hsub := F.called_set.sub
  refine wpAny_call (codeAny_of_tree ?_)
  show wpAny _ _ (callAny (.type "set") _) _ _ _
  refine wpAny_pure ⟨Code.quiet_builtin _ (by decide +kernel), codeAny_builtin F.entry_type_call ?_⟩
  rw [Around.under_plain (weight_type_call_type "set" [.ref l] []) rfl]
  have h1 := F.called_set.notType
  have h2 := F.called_set.canCreate
  have hct := F.typeCall_set_1 (.ref l)
  repeat (any_goals (first | assumption | wp_step))
  refine codeAny_mono (code_set_led1 (.ref l) (E := E) (Q₁ := fun obj s₁ => obj = .ref s.heap.objs.size ∧ s₁ = { s with heap := s.heap.push (set0 w) }) ⟨rfl, rfl⟩) fun r s₁ hr => ?_
  match r, hr with
  | .error e, hr => exact hr
  | .ok .next, hr => exact hr.elim
  | .ok .brk, hr => exact hr.elim
  | .ok .cont, hr => exact hr.elim
  | .ok (.ret obj), ⟨e1, e2⟩ =>
    subst e1 e2
    have hS : (s.heap.push (set0 w)).get? s.heap.objs.size = some (set0 w) := Heap.get?_push_size _ rfl
    have hT : Shared.TypeIs { s with heap := s.heap.push (set0 w) } (.ref s.heap.objs.size) "set" := ⟨_, hS, rfl⟩
    have hli := F.called_set.init.lookup
    have hbi := F.called_set.init.bind (.ref s.heap.objs.size)
    repeat (any_goals (first | assumption | wp_step))
    refine codeAny_mono (codeAny_call_builtin (R := wants (fun r s₂ => r = .none ∧ ∃ h' tk c, s₂ = { s with heap := h', toks := tk } ∧ SetR w h' s.heap.objs.size (fun j => decide (j ∈ ns)) c ∧ c ≤ ns.length ∧
        (∀ b o, s.heap.get? b = some o → h'.get? b = some o)) E) F.called_set.init.plain F.entry_set_init (check_set_init_1 hT ?_)) fun r₂ s₂ hr₂ => ?_
    · obtain ⟨⟨ocls, odict, odata, oslots⟩, hol, hcl, nl, hdl⟩ := hl
      simp only at hcl hdl
      subst hcl hdl
      have hol' : (s.heap.push (set0 w)).get? l = some { cls := .type "list", dict := odict, data := .seq items nl, slots := oslots } := Heap.get?_push_of_some _ hol
      have hsls := F.sub_list_set
      have hslf := F.sub_list_frozenset
      have hne : (Value.type "list" == Value.type "dict") = false := by decide
      have hl1 : (s.heap.push (set0 w)).IsList l items := ⟨_, hol', rfl, nl, rfl⟩
      unfold Builtin.«set.__init__» noKeywords Builtin.Frozenset.updateFrom
      generalize hPI : pyIter = PI
      wp_walk
      subst hPI
      refine wpAny_pyIter_list hl1 ?_
      refine wpAny_bind (wpAny_runValue ?_)
      have hz1 : (s.heap.push (set0 w)).objs.size = s.heap.objs.size + 1 := Heap.size_push ..
      have hneI : l ≠ (s.heap.push (set0 w)).objs.size := by rw [hz1]; exact Nat.ne_of_lt (Nat.lt_succ_of_lt hlS)
      have hSf : s.heap.objs.size ∉ [(s.heap.push (set0 w)).objs.size, l] := by
        rw [hz1]
        simp only [List.mem_cons, List.not_mem_nil, or_false, not_or]
        exact ⟨Nat.ne_of_lt (Nat.lt_succ_self _), Nat.ne_of_gt hlS⟩
      have hval : ∀ (i : Nat) (v : Value), items[i]? = some v → ∃ k t, ns[i]? = some k ∧ v = .int k t := fun i v hv => by
        have hi : i < ns.length := by rw [← hisz]; exact (Array.getElem?_eq_some_iff.mp hv).1
        obtain ⟨t, e⟩ := PyProof.Rows.IntsAre.int_at hit i v (by rw [Array.getElem?_toList]; exact hv)
        refine ⟨ns[i], t, List.getElem?_eq_getElem hi, ?_⟩
        rw [e, List.getD_eq_getElem?_getD, List.getElem?_eq_getElem hi] <;> rfl
      refine set_update_ints ((Walks.list (by simp [hh]) _ l hneI items).toS) s.heap.objs.size hSf ns hisz hb hval (items.size - 0) 0 _ (by omega) (Nat.zero_le _)
        ⟨⟨_, Heap.get?_push_size _ rfl, rfl, rfl⟩, (hl1.push _)⟩ ⟨0, Nat.le_refl 0, setR_new_at (Heap.get?_push_of_some _ hS)⟩ fun s' c' hm hc' hS' => ?_
      obtain ⟨h', g2, d', tk', os'⟩ := s'
      have eg : g2 = s.gens := hm.gens
      have ed : d' = s.drawn := hm.drawn
      have eo : os' = s.os := hm.os
      subst eg; subst ed; subst eo
      show wpAny _ _ _ _ _ _
      refine wpAny_pure ?_
      show wpAny _ _ (ret Value.none) _ _ _
      refine wpAny_pure ⟨rfl, h', tk', c', rfl, hS', by omega, fun b o e => hm.heap b o ?_ (Heap.get?_push_of_some _ (Heap.get?_push_of_some _ e))⟩
      have hb0 : b < s.heap.objs.size := Heap.lt_size e
      rw [hz1]
      simp only [List.mem_cons, List.not_mem_nil, or_false, not_or]
      exact ⟨Nat.ne_of_lt hb0, Nat.ne_of_lt (Nat.lt_succ_of_lt hb0)⟩
    · match r₂, hr₂ with
      | .error e, hr₂ => exact hr₂
      | .ok .next, hr₂ => exact hr₂.elim
      | .ok .brk, hr₂ => exact hr₂.elim
      | .ok .cont, hr₂ => exact hr₂.elim
      | .ok (.ret r), ⟨e1, h', tk, c', e2, hS', hc', hk'⟩ =>
        subst e1 e2
        repeat (any_goals (first | assumption | wp_step))
        exact h _ _ _ hS' hc' hk'
end

/-! ### ints in a list -/
def intsD : List D → Option (List Int)
  | [] => some []
  | .int k :: l => (intsD l).map (k :: ·)
  | _ => none
theorem intsD_rep {K : PySem.W.Frag} {μ : List Addr} {H : Hp} : ∀ {l : List D} {ns : List Int} {xs : List V}, RepL K μ H l xs → intsD l = some ns → xs = ns.map V.int
  | [], _, _, r, e => by cases e; cases r; rfl
  | d :: l, ns, _, r, e => by
    cases d with
    | int k =>
      obtain ⟨x, xs, rfl, r1, r2⟩ := r
      cases r1
      unfold intsD at e
      cases h : intsD l with
      | none => rw [h] at e; cases e
      | some l' => rw [h] at e; cases e; rw [intsD_rep r2 h]; rfl
    | _ => simp [intsD] at e
theorem ints_repL {K : PySem.W.Frag} {μ : List Addr} {H : Hp} : ∀ (l : List Int), RepL K μ H (l.map D.int) (l.map V.int)
  | [] => rfl
  | _ :: l => ⟨_, _, rfl, rfl, ints_repL l⟩
def uins (k : Int) : List Int → List Int
  | [] => [k]
  | x :: l => if k < x then k :: x :: l else if k = x then x :: l else x :: uins k l
def usort (l : List Int) : List Int := l.foldr uins []
theorem mem_uins {k j : Int} : ∀ {l : List Int}, j ∈ uins k l ↔ j = k ∨ j ∈ l
  | [] => by simp [uins]
  | x :: l => by
    unfold uins
    split
    · simp
    · split
      · rename_i e; subst e; simp
      · rw [List.mem_cons, mem_uins, List.mem_cons]
        constructor
        · rintro (h | h | h) <;> simp [h]
        · rintro (h | h | h) <;> simp [h]
theorem uins_sorted {k : Int} : ∀ {l : List Int}, l.Pairwise (· < ·) → (uins k l).Pairwise (· < ·)
  | [], _ => by simp [uins]
  | x :: l, h => by
    rw [List.pairwise_cons] at h
    unfold uins
    split
    · rename_i lt
      refine List.pairwise_cons.mpr ⟨fun y hy => ?_, List.pairwise_cons.mpr h⟩
      rcases List.mem_cons.mp hy with rfl | hy
      · exact lt
      · exact Int.lt_trans lt (h.1 y hy)
    · split
      · exact List.pairwise_cons.mpr h
      · refine List.pairwise_cons.mpr ⟨fun y hy => ?_, uins_sorted h.2⟩
        rcases mem_uins.mp hy with rfl | hy
        · omega
        · exact h.1 y hy
theorem mem_usort {j : Int} : ∀ {l : List Int}, j ∈ usort l ↔ j ∈ l
  | [] => by simp [usort]
  | x :: l => by
    show j ∈ uins x (usort l) ↔ _
    rw [mem_uins, mem_usort, List.mem_cons]
theorem usort_sorted : ∀ (l : List Int), (usort l).Pairwise (· < ·)
  | [] => by simp [usort]
  | x :: l => uins_sorted (usort_sorted l)
theorem strict_uniq {l k : List Int} (h1 : l.Pairwise (· < ·)) (h2 : k.Pairwise (· < ·)) (h : ∀ j, j ∈ l ↔ j ∈ k) : l = k := by
  have n1 : l.Nodup := h1.imp fun h => by omega
  have n2 : k.Nodup := h2.imp fun h => by omega
  refine List.Perm.eq_of_pairwise (le := fun a b => a < b) (fun a b _ _ h1 h2 => ?_) h1 h2 ((List.perm_ext_iff_of_nodup n1 n2).mpr h)
  omega
def isortI (l : List Int) : List Int := l.mergeSort fun a b => decide (a ≤ b)
theorem isortI_uniq {l zs : List Int} (p : zs.Perm l) (s : zs.Pairwise (· ≤ ·)) : zs = isortI l := by
  refine List.Perm.eq_of_pairwise (le := fun a b => a ≤ b) (fun a b _ _ h1 h2 => by omega) s ?_ (p.trans (List.mergeSort_perm l _).symm)
  have := List.pairwise_mergeSort (le := fun a b : Int => decide (a ≤ b)) (fun a b c h1 h2 => by simp at *; omega) (fun a b => by simp; omega) l
  exact this.imp fun h => of_decide_eq_true h
/-! ### sorted(set(e)) -/
def eSortSet (F : ES) : ES := fun ρ m => (F ρ m).bind fun d m1 => match (lstOf m1 d).bind intsD with
  | some ns => if ns.length < 64 then .ok (.lst ((usort ns).map D.int)) m1 else .no
  | none => .no
section
variable {X : Cx} {T : List (Addr × Str)} {W : WX}
def rSetLI (K : PySem.W.Frag) (w : World) : List V → Hp → VK → Prop := fun xs H Q => ∃ (a : Addr) (ns : List Int), xs = [.ref a] ∧ SqL K H a (ns.map V.int) ∧ ns.length < 64 ∧
  ∀ (p : Addr) (c : Nat), c ≤ ns.length → H p = none → Q (.ref p) (upd H p (SetO w p (fun j => decide (j ∈ ns)) c))
theorem cr_setLI (hc : X.calm = true) : CallR X (.type "set") (rSetLI X.K X.w) := by
  intro pins s σ H xs us Q I r h
  obtain ⟨a, ns, rfl, hs, h64, q⟩ := h
  obtain ⟨its, rv, hl, hz⟩ := I.list hs
  rw [Vals.ref1 r]
  refine call_set_lstI ns (I.ok.hd hc) hl.isList (by rw [List.toList_toArray]; exact ints_of_vals rv) (by unfold scanBound; omega) fun h' tk c R hcn kp => ?_
  exact ⟨.ref _, _, I.laid (t' := tk) kp (Nat.le_refl _) (setO_new R), rfl, q _ c hcn (I.hok.fresh (Nat.le_refl _))⟩
theorem de_sortSet {e : Expr} {p pos p2 pos2 : Pos} {F : ES} (hc : X.calm = true) (hm : X.mg "sorted" = none) (hm2 : X.mg "set" = none) (ho : DE X T W e F) (hg : Gl X "sorted" := by rfl) (hg2 : Gl X "set" := by rfl)
    (he2 : starEach [e] X.env = (false, eval e X.env) :: starEach [] X.env := by rfl)
    (he : starEach [.Call (.Name "set" p2) [e] [] pos2] X.env = (false, eval (.Call (.Name "set" p2) [e] [] pos2) X.env) :: starEach [] X.env := by rfl) :
    DE X T W (.Call (.Name "sorted" p) [.Call (.Name "set" p2) [e] [] pos2] [] pos) (eSortSet F) := by
  have h1 := pe_callTy (p := p2) (pos := pos2) (cr_setLI hc) hg2 hm2 (by decide +kernel) (pa_cons ho.run pa_nil he2) (by decide) (by decide) he2
  refine ⟨(pe_callB (cr_sortedSet hc).frz hg hm (by decide +kernel) (pa_cons h1 pa_nil he)).weak fun σ H Q ⟨μ, ρ, m, er, s, q⟩ => tG_mk er s (q.bind fun d m1 μ1 H1 x x1 s1 r1 q1 => ?_)⟩
  split at q1
  · rename_i ns hd
    split at q1
    · rename_i h64
      obtain ⟨l, hl, hi⟩ := Option.bind_eq_some_iff.mp hd
      obtain ⟨a, xs, rfl, hs, rl⟩ := lstOf_rep s1 r1 hl
      have ex := intsD_rep rl hi
      subst ex
      refine ⟨a, ns, rfl, hs, h64, fun p c hcn hp => ⟨p, _, c, rfl, upd_same, by omega, fun zs p2 hz1 hz2 hz3 hp2 => ?_⟩⟩
      have ez : zs = usort ns := strict_uniq hz1 (usort_sorted ns) fun j => by rw [hz2, mem_usort]; simp
      subst ez
      exact post_newL (s1.new hp) (ints_repL _) (Post.ext (rp := Rep X.K) (r := R.ok (.lst ((usort ns).map D.int)) m1) (.new hp) q1) p2 hp2
    · exact q1.elim
  · exact q1.elim
/-! ### sorted(l), sorted(d) -/
def keyInts : List Key → Option (List Int)
  | [] => some []
  | .inl k :: l => (keyInts l).map (k :: ·)
  | .inr _ :: _ => none
theorem keyInts_eq : ∀ {ks : List Key} {ns : List Int}, keyInts ks = some ns → ks = ns.map Sum.inl
  | [], _, e => by cases e; rfl
  | .inl k :: l, _, e => by
    unfold keyInts at e
    cases h : keyInts l with
    | none => rw [h] at e; cases e
    | some l' => rw [h] at e; cases e; rw [keyInts_eq h]; rfl
  | .inr _ :: _, _, e => by cases e
def sortD : FS := fun ds m => match ds with
  | [d] => (match (lstOf m d).bind intsD with
    | some ns => .ok (.lst ((isortI ns).map D.int)) m
    | none => (match dicOf m d with
      | some (ks, _) => (match keyInts ks with
        | some ns => if ns.length < 64 then .ok (.lst ((isortI ns).map D.int)) m else .no
        | none => .no)
      | none => .no))
  | _ => .no
def rSortA (K : PySem.W.Frag) : List V → Hp → VK → Prop := fun xs H Q => rSortedI K xs H (FQ Q) ∨ (∃ (a : Addr) (kvs : List (Key × V)) (ks : List Int), xs = [.ref a] ∧ Rd H a (.dK kvs) ∧ kvs.map (·.1) = ks.map Sum.inl ∧ ks.length < 64 ∧
    ∀ (ys : List Int) (p : Addr), ys.Perm ks → ys.Pairwise (· ≤ ·) → H p = none → FQ Q (.ref p) (upd H p (.lst (ys.map V.int))))
theorem cr_sortA (hc : X.calm = true) : CallR X (.builtin "sorted") (rSortA X.K) := fun pins s σ H xs us Q I r h => by
  rcases h with h | h
  · exact cr_sortedI.frz pins s σ H xs us Q I r h
  · exact (call_sortedDI hc).frz pins s σ H xs us Q I r h
theorem sortD_ok : ArD X T sortD (rSortA X.K) := by
  intro W σ μ H m ds xs Q S r q
  unfold sortD at q
  split at q
  · obtain ⟨v, rfl, r1⟩ := repL1 r
    split at q
    · rename_i d ns hd
      obtain ⟨l, hl, hi⟩ := Option.bind_eq_some_iff.mp hd
      obtain ⟨a, xs, rfl, hs, rl⟩ := lstOf_rep S r1 hl
      have ex := intsD_rep rl hi
      subst ex
      refine .inl ⟨a, ns, rfl, hs, fun zs p h1 h2 hp => ?_⟩
      rw [isortI_uniq h1 h2]
      exact post_newL S (ints_repL _) q p hp
    · split at q
      · rename_i ks vs hd
        split at q
        · rename_i ns hk
          split at q
          · rename_i h64
            obtain ⟨a, xs, rfl, rd, hlen, rl⟩ := dicOf_rep S r1 hd
            refine .inr ⟨a, _, ns, rfl, rd, ?_, h64, fun zs p h1 h2 hp => ?_⟩
            · rw [List.map_fst_zip (by rw [← rl.length, hlen]; exact Nat.le_refl _), keyInts_eq hk]
            · rw [isortI_uniq h1 h2]
              exact post_newL S (ints_repL _) q p hp
          · exact q.elim
        · exact q.elim
      · exact q.elim
  · exact q.elim
end
end DL


/-! DLn: dict displays, targets behind a list, is True, repeats. -/
namespace DL
open PySem PySem.Spec L2
open PyProof.Rows hiding St

/-! ### an object of ours that is no cell -/
section
variable {T : List (Addr × Str)} {K : PySem.W.Frag} {μ μ2 : List Addr} {H H2 : Hp} {m : List C} {p : Addr} {o : HO}
theorem Sto.nin (S : Sto T K μ H m) (h : H p = none) : p ∉ μ := fun z => by
  obtain ⟨u, e⟩ := S.mem z
  rw [h] at e
  cases e
theorem Sto.off (S : Sto T K μ H m) (hp : p ∉ μ) (hc : Celled (H p)) : Sto T K μ (upd H p o) m :=
  ⟨S.len, S.nd, fun n c a e1 e2 => (S.rep n c a e1 e2).keep (.mut hc) (List.prefix_refl _) fun u e _ => by
    rw [upd_ne (fun z => hp (by rw [← z]; exact List.mem_of_getElem? e2))]
    exact e, tabs_set S.tab hc⟩
theorem Ext.off {q : HO} (x : Ext μ (upd H p q) μ2 H2) (hn : H p = none) (hq : ∀ ps, q ≠ .tbl ps) (hp : p ∉ μ) : Ext μ H μ2 (upd H2 p o) ∧ H2 p = some q ∧ p ∉ μ2 := by
  have n2 : p ∉ μ2 := fun z => by
    rcases x.fresh p z hp with e | ⟨ps, e⟩
    · rw [upd_same] at e; cases e
    · rw [upd_same] at e; exact hq ps (Option.some.inj e)
  have k : ∀ b u, H b = some u → b ≠ p := fun b u e => ne_of_none e hn
  refine ⟨⟨x.pre, ⟨fun a xs e => ?_, fun a u v e => ?_, fun a u e => ?_⟩, fun a u e n => ?_, fun a h n => ?_⟩, ?_, n2⟩
  · rw [upd_ne (k a _ e)]; exact x.kept.tup a xs (by rw [upd_ne (k a _ e)]; exact e)
  · rw [upd_ne (k a _ e)]; exact x.kept.frz a u v (by rw [upd_ne (k a _ e)]; exact e)
  · rw [upd_ne (k a _ e)]; exact x.kept.cod a u (by rw [upd_ne (k a _ e)]; exact e)
  · rw [upd_ne (k a _ e)]; exact x.frame a u (by rw [upd_ne (k a _ e)]; exact e) n
  · have ne : a ≠ p := fun z => n2 (by rw [← z]; exact h)
    have := x.fresh a h n
    rw [upd_ne ne] at this
    exact this
  · rcases x.frame p q upd_same hp with e | ⟨ps, e⟩
    · exact e
    · exact absurd e (hq ps)
end

/-! ### {k: v, ..} -/
abbrev PS := Env → List C → R (List Key × List D)
def pNil : PS := fun _ m => .ok ([], []) m
def pCons (Fk Fv : ES) (S : PS) : PS := fun ρ m => (Fk ρ m).bind fun k m1 => (Fv ρ m1).bind fun v m2 => (S ρ m2).bind fun q m3 => match keyOf k with
  | some k => .ok (k :: q.1, v :: q.2) m3
  | none => .no
def pRep (K : PySem.W.Frag) : List Addr → Hp → List Key × List D → List (V × V) → Prop := fun μ H q ps => ∃ xs, ps = (q.1.zip xs).map (fun kv => (kV kv.1, kv.2)) ∧ q.1.length = q.2.length ∧ RepL K μ H q.2 xs
structure DPs (X : Cx) (T : List (Addr × Str)) (W : WX) (pos : Pos) (keys : List (Option Expr)) (values : List Expr) (S : PS) : Prop where
  run : ∃ trs, PPs X pos keys values trs ∧ ∀ σ H (Q : List (V × V) → Hp → Prop), tG (pRep X.K) T X.K W S σ H Q → tPairs trs σ H Q
section
variable {X : Cx} {T : List (Addr × Str)} {W : WX} {pos : Pos}
theorem dps_nil : DPs X T W pos [] [] pNil := ⟨[], pps_nil, fun σ H Q ⟨μ, ρ, m, er, s, q⟩ => post_here (rp := pRep X.K) (a := ([], [])) s ⟨[], rfl, rfl, rfl⟩ q⟩
theorem dps_cons {k v : Expr} {ks : List (Option Expr)} {vs : List Expr} {Fk Fv : ES} {S : PS} (hk : DE X T W k Fk) (hv : DE X T W v Fv) (h : DPs X T W pos ks vs S) : DPs X T W pos (some k :: ks) (v :: vs) (pCons Fk Fv S) := by
  obtain ⟨trs, h1, h2⟩ := h.run
  refine ⟨_, pps_cons hk.run hv.run h1, fun σ H Q ⟨μ, ρ, m, er, s, q⟩ => tG_mk er s (q.bind fun dk m1 μ1 H1 x x1 s1 r1 q1 => tG_mk (er.ext x1) s1 (q1.bind fun dv m2 μ2 H2 y x2 s2 r2 q2 => h2 _ _ _ (tG_mk ((er.ext x1).ext x2) s2 (q2.bind fun q m3 μ3 H3 ps x3 s3 r3 q3 => ?_))))⟩
  split at q3
  · rename_i kk hkk
    obtain ⟨xs, rfl, hl, rl⟩ := r3
    have ek := keyOf_rep ((r1.ext x2).ext x3) hkk
    refine post_here (rp := pRep X.K) (a := (kk :: q.1, dv :: q.2)) s3 ⟨y :: xs, ?_, congrArg (· + 1) hl, ⟨y, xs, rfl, r2.ext x3, rl⟩⟩ q3
    rw [ek]
    rfl
  · exact q3.elim
def eDisp (S : PS) : ES := fun ρ m => (S ρ m).bind fun q m1 => if q.1.length ≤ 15 then .ok (.dic (mergeD [] [] q.1 q.2).1 (mergeD [] [] q.1 q.2).2) m1 else .no
theorem de_disp {keys : List (Option Expr)} {values : List Expr} {S : PS} (h : DPs X T W pos keys values S) (hall : keys.all (·.isSome) = true := by rfl) (hl : keys.length = values.length := by rfl) (h0 : keys ≠ [] := by exact fun z => nomatch z)
    (h15 : keys.length ≤ 15 := by decide) : DE X T W (.Dict keys values pos) (eDisp S) := by
  obtain ⟨trs, h1, h2⟩ := h.run
  refine ⟨(pe_frz (pe_disp h1 hall hl h0 h15)).weak fun σ H Q ⟨μ, ρ, m, er, s, q⟩ p hp => h2 _ _ _ ?_⟩
  have x0 : Ext μ H μ (upd H p (.dK [])) := .new hp
  have np := s.nin hp
  refine tG_mk (er.ext x0) (s.new hp) ?_
  unfold eDisp at q
  cases e : S ρ m with
  | no => rw [e] at q; exact q.elim
  | exc c ns vs m1 =>
    rw [e] at q
    refine fun μ1 H1 od x1 s1 xr => ?_
    have key : ∀ {μ2 H2}, Ext μ (upd H p (.dK [])) μ2 H2 → Ext μ H μ2 H2 := fun x => x0.trans x
    exact q μ1 H1 od (key x1) s1 xr
  | ok kv m1 =>
    rw [e] at q
    obtain ⟨ks, vs⟩ := kv
    refine fun μ1 H1 ps x1 s1 r1 => ?_
    obtain ⟨xs, rfl, hl, rl⟩ := r1
    have q2 : Post (Rep X.K) T X.K W σ μ H (if ks.length ≤ 15 then R.ok (.dic (mergeD [] [] ks vs).1 (mergeD [] [] ks vs).2) m1 else .no) Q := q
    split at q2
    · rename_i h15
      obtain ⟨_, hp1, np1⟩ := Ext.off (o := .dK []) x1 hp (fun _ z => by cases z) np
      refine ⟨hp1, ks.zip xs, rfl, by rw [List.length_zip]; omega, .inr ⟨p, .dK (mergeK [] (ks.zip xs)), rfl, upd_same, trivial, fun od => ?_⟩⟩
      rw [upd_upd]
      obtain ⟨x2, _, _⟩ := Ext.off (o := .frz od (.dK (mergeK [] (ks.zip xs)))) x1 hp (fun _ z => by cases z) np
      obtain ⟨ys, e1, e2, e3⟩ := mergeD_rep (ks0 := []) (vs0 := []) (xs0 := []) rl hl rfl rfl
      have hc : Celled (H1 p) := by rw [hp1]; trivial
      refine q2 μ1 _ _ x2 (s1.off np1 hc) ⟨p, ys, od, rfl, ?_, e3, e2.keep (.mut hc) (List.prefix_refl _)⟩
      rw [upd_same, show ([] : List (Key × V)) = ([] : List Key).zip ([] : List V) from rfl, e1]
    · exact q2.elim
end

/-! ### a, b, .. = a list -/
def gL (n : Nat) (gs : GSs) : GS := fun d ρ m => match lstOf m d with
  | some l => if l.length = n then gs l ρ m else none
  | none => none
section
variable {X : Cx} {T : List (Addr × Str)} {W : WX} {pos : Pos}
theorem dg_lst {es : List Expr} {k n : Nat} {ws : List Nat} {gs : GSs} (hc : X.calm = true) (h : DGs X T es ws gs) (hn : (assignEach es X.env).length = n := by rfl) (hst : (assignEach es X.env).findIdx? (·.1) = none := by rfl) : DG X T (.Tuple es k pos) ws (gL n gs) :=
  ⟨(pg_lst hc h.run hn hst).weak fun v σ H Q ⟨μ, ρ, m, d, e, s, r, ρ', eg, h⟩ => by
    unfold gL at eg
    split at eg
    · rename_i l hl
      split at eg
      · rename_i hn
        obtain ⟨a, xs, rfl, hs, rl⟩ := lstOf_rep s r hl
        exact ⟨a, xs, rfl, hs, by rw [← rl.length]; exact hn, μ, ρ, m, l, e, s, rl, ρ', eg, h⟩
      · cases eg
    · cases eg⟩
/-! ### is, of bools -/
def isBD : D → D → List C → R D := fun a b m => match a, b with
  | .bl a, .bl b => .ok (.bl (decide (a = b))) m
  | _, _ => .no
theorem isBD_ok : OpD X T isBD (fun x y H Q => ∃ a b, x = .bl a ∧ y = .bl b ∧ Q (.bl (decide (a = b))) H) := by
  intro W σ μ H m d1 d2 x y Q S r1 r2 q
  unfold isBD at q
  split at q
  · cases r1; cases r2
    exact ⟨_, _, rfl, rfl, post_here (a := D.bl _) S rfl q⟩
  · exact q.elim
/-! ### repeats -/
/-- a list cell just made, repeated -/
def repD : D → D → List C → R D := fun a b m => match a, b with
  | .cell n, .int k => (match m[n]? with
    | some (.lst l) => if -(2 ^ 63) ≤ k ∧ k < 2 ^ 63 ∧ fits (l.length * k.toNat) then .ok (.lst (List.replicate k.toNat l).flatten) m else .no
    | _ => .no)
  | _, _ => .no
theorem RepL.flat {K : PySem.W.Frag} {μ : List Addr} {H : Hp} {l : List D} {xs : List V} (r : RepL K μ H l xs) : ∀ k : Nat, RepL K μ H (List.replicate k l).flatten (List.replicate k xs).flatten
  | 0 => rfl
  | k + 1 => by
    rw [List.replicate_succ, List.replicate_succ, List.flatten_cons, List.flatten_cons]
    exact r.append (RepL.flat r k)
theorem repD_ok : OpD X T repD (fun x y H Q => rRep x y H (FQ Q)) := by
  intro W σ μ H m d1 d2 x y Q S r1 r2 q
  unfold repD at q
  split at q
  · cases r2
    obtain ⟨a, ea, rfl⟩ := r1
    split at q
    · rename_i l hm
      split at q
      · rename_i hk
        obtain ⟨h1, h2, h3⟩ := hk
        obtain ⟨xs, ex, rl⟩ := S.rep _ _ a hm ea
        exact ⟨a, _, xs, rfl, rfl, ex, h1, h2, by rw [← rl.length]; exact fits_iff.mp h3, post_newL S (rl.flat _) q⟩
      · exact q.elim
    · exact q.elim
  · exact q.elim
end
end DL


/-! DLo: defs that make lambdas; own classes. -/
namespace DL
open PySem PySem.Spec L2
open PyProof.Rows hiding St

/-- a def whose code object and table are told -/
structure DefT (K : PySem.W.Frag) (mg : Str → Option Value) (x : Str) (st : Stmt) (ps : List Str) (c : Addr) where
  f : Addr
  fd : FuncData
  ex : ∃ (oc : Value) (od : Option Addr) (kV doc pm : Value) (an : Option Addr) (ct : Value) (osl : Array (Option Value)),
    fd = PySem.W.fnOf x x (defArgs st) (defBody st) (defScope st) .none kV doc pm an (.ref c) ct ∧ K.lookup f = some ⟨oc, od, .func fd, osl⟩ ∧ PySem.W.codeIn K (.ref c) x = true
  kp : PySem.W.keepIn K (.ref f) = true
  m : mg x = some (.ref f)
  b : Binds K fd ps []
def DefT.F {K : PySem.W.Frag} {mg : Str → Option Value} {x : Str} {st : Stmt} {ps : List Str} {c : Addr} (D : DefT K mg x st ps c) : Fun K x x st D.f D.fd :=
  ⟨let ⟨oc, od, kV, doc, pm, an, ct, osl, h⟩ := D.ex; ⟨oc, od, kV, doc, pm, an, .ref c, ct, osl, h⟩, D.kp⟩
section
variable {P : Program} {w : World} {K : PySem.W.Frag} {mg : Str → Option Value} {base : Heap} {T : List (Addr × Str)}
/-- THE RULE for a def that makes lambdas -/
theorem fn_DT {x : Str} {st : Stmt} {N ps : List Str} {k : Nat} {c : Addr} {S : SS} (D : DefT K mg x st ps c) (Sc : FnScope N ps (defScope st))
    (hb : ∀ (A : Around) (outer : List PySem.Env) (s : Shared) (H : Hp) (E : XK), RmG k (A.deeper (envOfC x (defScope st) s.heap.objs.size D.f (.ref c))) →
      Takes (cxOf (L2.CX P w) P w K mg base N x (defScope st) D.f (.ref c) A outer s H E) (fun cls d _ H' => E cls d H') → DSs (cxOf (L2.CX P w) P w K mg base N x (defScope st) D.f (.ref c) A outer s H E) T (fun cls d _ H' => E cls d H') (defBody st) S) :
    FnG P w K mg base (L2.CX P w) (k + 1) D.f D.fd ps (spD K T ps.length (fnD N.length S)) := by
  obtain ⟨oc, od, kV, doc, pm, an, ct, osl, e, lk, hcd⟩ := D.ex
  obtain ⟨f, fd, ex, kp, m, b⟩ := D
  dsimp only at e lk hb ⊢
  subst e
  refine ⟨fun vs H Q E h => h.1, fun A outer s H args us vs Q E hr e0 hbd rr h => LamX.run_ofS lk hcd Sc hr.r e0 hbd rr h.1 fun hr0 => ?_⟩
  have hr : RmG k (A.deeper (envOfC x (defScope st) s.heap.objs.size f (.ref c))) := ⟨hr0, hr.g⟩
  obtain ⟨hl, μ, ds, m, r, sto, h⟩ := h
  refine ⟨_, (hb A outer s H E hr (takes_of rfl rfl rfl rfl)).run, μ, startD N.length ds, m, startD_rep r, sto, ?_⟩
  unfold fnD at h
  cases e : S (startD N.length ds) m with
  | nx ρ1 m1 => rw [e] at h; exact fun μ1 H1 σ1 x1 s1 e1 => h μ1 H1 .non x1 s1 rfl
  | rt d m1 => rw [e] at h; exact h
  | bk ρ1 m1 => rw [e] at h; exact h.elim
  | ct ρ1 m1 => rw [e] at h; exact h.elim
  | ex c ns vs ρ1 m1 => rw [e] at h; exact fun μ1 H1 σ1 od x1 s1 e1 xr => h μ1 H1 od x1 s1 xr
  | no => rw [e] at h; exact h.elim
end
section
variable {X : Cx} {T : List (Addr × Str)} {W : WX}
open LamX in
theorem de_lamD {x a : Str} {st : Stmt} (D : DefAt X.K X.mg x st [a]) {Ng : List Str} (Sg : FnScope Ng [a] (defScope st)) {G : Th → Th} {F : ES} {c P : Addr} {k : Nat} {params : Arguments} {body : Expr} {scope : Scope} {p lpos pos : Pos} (hr : RmG (k + 2) X.A)
    (hG : ∀ cdv, GivesD X T Ng x (defScope st) D.f cdv (defBody st) a G)
    (TB : TabB X.base X.mg c P) (hmT : (P, X.env.qual ++ "<lambda>") ∈ T) (hu : ∀ p ∈ T, p.1 = P → p.2 = X.env.qual ++ "<lambda>")
    (hbody : ∀ (A : Around) (outer : List PySem.Env) (s : Shared) (H : Hp) (E : XK) (f c' : Addr), RmG k (A.deeper (lamEnv X scope s.heap.objs.size f c')) → DE (lamCx X A outer s H E scope f c') T (fun cls d _ H => E cls d H) body F)
    (hcode : X.env.code = .ref c := by rfl)
    (hNg : Ng[0]? = some a := by rfl) (hva : Vis (defScope st) a := by first | exact Or.inl rfl | exact Or.inr (Or.inl rfl)) (L : LamS X.env.scope scope := by exact LamX.lamS_by rfl) (hdef : defaultsOf params X.env = ([], []) := by rfl)
    (hbind : ∀ (q : Str) (cl : List (Str × Addr)) (pm cv ctv : Value), bindArgs (PySem.W.kla_fn "<lambda>" q params body scope cl pm cv ctv) ⟨[], []⟩ = pure [] := by intros; rfl)
    (hg : Gl X x := by rfl) (hdb : (x == ("__debug__" : Str)) = false := by decide) (hd : (a == ("__debug__" : Str)) = false := by decide) (hcd : (a == ("__classdict__" : Str)) = false := by decide) :
    DE X T W (.Call (.Name x p) [.Lambda params body scope lpos] [] pos) (eLam G F) := by
  obtain ⟨oc, od, kV, doc, pm, an, cdv, ct, osl, e, lk, hcg⟩ := D.F.ex
  rw [e] at lk
  have hb := D.b
  rw [e] at hb
  exact de_lam D.m D.F.kp lk hcg hb Sg hr (hG cdv) TB hcode hmT hu hbody hNg hva L hdef hbind hg hdb hd hcd
end
/-- an own class that is named -/
abbrev ClsAt (mg : Str → Option Value) (x : Str) (c : Addr) : Prop := mg x = some (.ref c)
/-- what a def makes of a lambda, whatever the lambda's value is -/
noncomputable def lamG (f : D → R D) : R D := open Classical in if ∀ L, f L = f .non then f .non else .no
theorem lamG_at (f : D → R D) (L : D) : lamG f = .no ∨ f L = lamG f := by
  unfold lamG
  split
  · rename_i h
    exact .inr (h L)
  · exact .inl rfl
theorem lamG_of {f : D → R D} {r : R D} (h : ∀ L, f L = r) : lamG f = r := by
  unfold lamG
  rw [if_pos fun L => (h L).trans (h .non).symm]
  exact h .non
/-- a promise of nothing -/
theorem fn_no {P : Program} {w : World} {K : PySem.W.Frag} {mg : Str → Option Value} {base : Heap} {T : List (Addr × Str)} {x qual : Str} {st : Stmt} {f : Addr} {fd : FuncData} {N ps : List Str} {k : Nat} (F : Fun K x qual st f fd) (Sc : FnScope N ps (defScope st)) :
    FnG P w K mg base (L2.CX P w) k f fd ps (spD K T ps.length (fun _ _ => .no)) := by
  have h : ∀ vs H Q E, spD K T ps.length (fun _ _ => R.no) vs H Q E → False := fun vs H Q E ⟨_, _, _, _, _, _, z⟩ => z
  exact ⟨fun vs H Q E z => (h _ _ _ _ z).elim, fun A outer s H args us vs Q E _ _ _ _ z => (h _ _ _ _ z).elim⟩
end DL


/-! DLv: what is asked of a result (wR, wS), read off the terms. -/
namespace DL
open PySem PySem.Spec L2
open PyProof.Rows hiding St

/-- the result is a value, and Q holds of it and of the store -/
def wR {α : Type} (r : R α) (Q : α → List C → Prop) : Prop := match r with
  | .ok a m => Q a m
  | _ => False
def wS (r : RS) (N : Env → List C → Prop) (T : D → List C → Prop) (B : Env → List C → Prop) (Ct : Env → List C → Prop) : Prop := match r with
  | .nx ρ m => N ρ m
  | .rt d m => T d m
  | .bk ρ m => B ρ m
  | .ct ρ m => Ct ρ m
  | _ => False
section
variable {α β : Type} {Q : β → List C → Prop} {N B Ct : Env → List C → Prop} {T : D → List C → Prop}
theorem wR_ok {a : β} {m : List C} : wR (.ok a m) Q = Q a m := rfl
theorem wR_no : wR (R.no : R β) Q = False := rfl
theorem wR_exc {c : Addr} {ns : List Str} {vs : List D} {m : List C} : wR (R.exc c ns vs m : R β) Q = False := rfl
theorem wR_bind {r : R α} {k : α → List C → R β} : wR (r.bind k) Q = wR r fun a m => wR (k a m) Q := by cases r <;> rfl
theorem wR_ite {c : Prop} [Decidable c] {a b : R β} : wR (if c then a else b) Q = ((c → wR a Q) ∧ (¬ c → wR b Q)) := by
  by_cases h : c <;> simp [h]
theorem wR_iteN {c : Prop} [Decidable c] {a : R β} : wR (if c then a else .no) Q = (c ∧ wR a Q) := by
  by_cases h : c <;> simp [h, wR]
theorem wR_imp {r : R β} {Q' : β → List C → Prop} (h : wR r Q) (k : ∀ a m, Q a m → Q' a m) : wR r Q' := by
  cases r with
  | ok a m => exact k a m h
  | _ => exact h
theorem wR_ex {r : R β} (h : wR r Q) : ∃ a m, r = .ok a m ∧ Q a m := by
  cases r with
  | ok a m => exact ⟨a, m, rfl, h⟩
  | _ => exact h.elim
theorem wR_of {r : R β} {a : β} {m : List C} (e : r = .ok a m) (h : Q a m) : wR r Q := by rw [e]; exact h
theorem wS_nx {ρ : Env} {m : List C} : wS (.nx ρ m) N T B Ct = N ρ m := rfl
theorem wS_rt {d : D} {m : List C} : wS (.rt d m) N T B Ct = T d m := rfl
theorem wS_bk {ρ : Env} {m : List C} : wS (.bk ρ m) N T B Ct = B ρ m := rfl
theorem wS_ct {ρ : Env} {m : List C} : wS (.ct ρ m) N T B Ct = Ct ρ m := rfl
theorem wS_no : wS .no N T B Ct = False := rfl
theorem wS_go {r : R α} {ρ : Env} {k : α → List C → RS} : wS (r.go ρ k) N T B Ct = wR r fun a m => wS (k a m) N T B Ct := by cases r <;> rfl
theorem wS_seq {r : RS} {k : Env → List C → RS} : wS (r.seq k) N T B Ct = wS r (fun ρ m => wS (k ρ m) N T B Ct) T B Ct := by cases r <;> rfl
theorem wS_ite {c : Prop} [Decidable c] {a b : RS} : wS (if c then a else b) N T B Ct = ((c → wS a N T B Ct) ∧ (¬ c → wS b N T B Ct)) := by
  by_cases h : c <;> simp [h]
theorem wS_opt {o : Option Env} {k : Env → RS} {ρ : Env} (h : o = some ρ) : wS (RS.opt o k) N T B Ct = wS (k ρ) N T B Ct := by rw [h]; rfl
theorem wS_optS {k : Env → RS} {ρ : Env} : wS (RS.opt (some ρ) k) N T B Ct = wS (k ρ) N T B Ct := rfl
theorem wS_optM {k : List C → RS} {m : List C} : wS (RS.optM (some m) k) N T B Ct = wS (k m) N T B Ct := rfl
theorem wS_turn {r : RS} {k : Env → List C → RS} : wS (r.turn k) N T B Ct = wS r (fun ρ m => wS (k ρ m) N T B Ct) T N (fun ρ m => wS (k ρ m) N T B Ct) := by cases r <;> rfl
theorem wS_imp {r : RS} {N' B' Ct' : Env → List C → Prop} {T' : D → List C → Prop} (h : wS r N T B Ct) (h1 : ∀ ρ m, N ρ m → N' ρ m) (h2 : ∀ d m, T d m → T' d m) (h3 : ∀ ρ m, B ρ m → B' ρ m) (h4 : ∀ ρ m, Ct ρ m → Ct' ρ m) : wS r N' T' B' Ct' := by
  cases r with
  | nx ρ m => exact h1 _ _ h
  | rt d m => exact h2 _ _ h
  | bk ρ m => exact h3 _ _ h
  | ct ρ m => exact h4 _ _ h
  | _ => exact h
end
theorem wR_fn {n : Nat} {S : SS} {ds : List D} {m : List C} {Q : D → List C → Prop} : wR (fnD n S ds m) Q = wS (S (startD n ds) m) (fun _ m => Q .non m) Q (fun _ _ => False) (fun _ _ => False) := by
  unfold fnD
  cases S (startD n ds) m <;> rfl
/-- a loop by an invariant of what is left -/
theorem wS_loop {g : GS} {B : SS} {N Bk Ct : Env → List C → Prop} {T : D → List C → Prop} (I : List D → Env → List C → Prop) (hN : ∀ ρ m, I [] ρ m → N ρ m)
    (hB : ∀ d ds ρ m, I (d :: ds) ρ m → ∃ ρ1, g d ρ m = some ρ1 ∧ wS (B ρ1 m) (fun ρ2 m2 => I ds ρ2 m2) T N (fun ρ2 m2 => I ds ρ2 m2)) : ∀ {l : List D} {ρ : Env} {m : List C}, I l ρ m → wS (loopD g B l ρ m) N T Bk Ct
  | [], ρ, m, h => hN ρ m h
  | d :: ds, ρ, m, h => by
    obtain ⟨ρ1, h1, h2⟩ := hB d ds ρ m h
    unfold loopD
    rw [h1, wS_optS, wS_turn]
    exact wS_imp h2 (fun ρ2 m2 h => wS_loop I hN hB h) (fun _ _ h => h) (fun _ _ h => h) (fun ρ2 m2 h => wS_loop I hN hB h)
/-- a comprehension by an invariant of what is made and what is left -/
theorem wR_comp {g : GS} {vs : List Nat} {A : BS} {F : ES} {ρ : Env} {Q : List D → List C → Prop} (I : List D → List D → List C → Prop) (hN : ∀ ys m, I ys [] m → Q ys m)
    (hB : ∀ ys d ds m, I ys (d :: ds) m → ∃ ρ1, g d (wipeD ρ vs) m = some ρ1 ∧ wR (A ρ1 m) fun b m1 => if b = true then wR (F ρ1 m1) fun y m2 => I (ys ++ [y]) ds m2 else I ys ds m1) : ∀ {l ys : List D} {m : List C}, I ys l m → wR (compD g vs A F ρ l m) fun zs m' => Q (ys ++ zs) m'
  | [], ys, m, h => by
    unfold compD
    rw [wR_ok, List.append_nil]
    exact hN ys m h
  | d :: ds, ys, m, h => by
    obtain ⟨ρ1, h1, h2⟩ := hB ys d ds m h
    unfold compD
    rw [h1]
    show wR (compK _ _ _) _
    obtain ⟨b, m1, e1, h3⟩ := wR_ex h2
    rw [e1]
    cases b with
    | false => exact wR_comp I hN hB (by simpa using h3)
    | true =>
      rw [if_pos rfl] at h3
      obtain ⟨y, m2, e2, h4⟩ := wR_ex h3
      show wR (compE (F ρ1 m1) _) _
      rw [e2]
      show wR ((compD g vs A F ρ ds m2).bind _) _
      rw [wR_bind]
      refine wR_imp (wR_comp I hN hB h4) fun zs m3 h5 => ?_
      rw [wR_ok]
      simpa using h5
end DL


/-! DLw: what the operations make of plain values. -/
namespace DL
open PySem PySem.Spec L2
open PyProof.Rows hiding St
theorem eqD_int {i j : Int} {m : List C} : eqD (.int i) (.int j) m = .ok (.bl (decide (i = j))) m := by
  show (if SeqAt.shaped (.int i) && SeqAt.shaped (.int j) then R.ok (D.bl (PyData.eqv (.int i) (.int j))) m else .no) = _
  rw [if_pos (by rfl)]
  simp [PyData.eqv]
  rw [Bool.eq_iff_iff]
  simp
theorem neD_int {i j : Int} {m : List C} : neD (.int i) (.int j) m = .ok (.bl (!decide (i = j))) m := by
  show (if SeqAt.shaped (.int i) && SeqAt.shaped (.int j) then R.ok (D.bl (!PyData.eqv (.int i) (.int j))) m else .no) = _
  rw [if_pos (by rfl)]
  simp [PyData.eqv]
  rw [Bool.eq_iff_iff]
  simp
theorem eqD_bl {i j : Bool} {m : List C} : eqD (.bl i) (.bl j) m = .ok (.bl (decide (i = j))) m := by cases i <;> cases j <;> rfl
theorem neD_bl {i j : Bool} {m : List C} : neD (.bl i) (.bl j) m = .ok (.bl (!decide (i = j))) m := by cases i <;> cases j <;> rfl
theorem eqD_str {x y : Str} {m : List C} (hx : PyData.strOk x = true) (hy : PyData.strOk y = true) : eqD (.str x) (.str y) m = .ok (.bl (decide (x = y))) m := rfl
theorem eqD_txt {x y : Str} {m : List C} : eqD (.str x) (.str y) m = .ok (.bl (decide (x = y))) m := rfl
theorem neD_txt {x y : Str} {m : List C} : neD (.str x) (.str y) m = .ok (.bl (!decide (x = y))) m := rfl
theorem atI_nat {α : Type} {l : List α} {i : Int} {x : α} (h0 : 0 ≤ i) (h : l[i.toNat]? = some x) : atI l i = some x := by
  have hl : i.toNat < l.length := (List.getElem?_eq_some_iff.mp h).1
  unfold atI ixN
  rw [if_pos h0, if_pos (by omega)]
  exact h
theorem log2_le {n k : Nat} (h : n < 2 ^ k) : n.log2 ≤ k := by
  by_cases h0 : n = 0
  · subst h0
    simp
  · have := (Nat.log2_lt h0).mpr h
    omega
theorem mulOk_of {i j : Int} (h1 : i.natAbs < 2 ^ 400000) (h2 : j.natAbs < 2 ^ 400000) : mulOk i j = true := by
  have a := log2_le h1
  have b := log2_le h2
  unfold mulOk
  rw [decide_eq_true_eq]
  omega

section
variable {m : List C} {i j : Int} {x y : Str} {l k : List D} {b : Bool}
theorem addD_int : addD (.int i) (.int j) m = .ok (.int (i + j)) m := rfl
theorem addD_str : addD (.str x) (.str y) m = if fits (x.length + y.length) then .ok (.str (x ++ y)) m else .no := rfl
theorem addD_tup : addD (.tup l) (.tup k) m = if fits (l.length + k.length) then .ok (.tup (l ++ k)) m else .no := rfl
theorem addD_lst : addD (.lst l) (.lst k) m = if fits (l.length + k.length) then .ok (.lst (l ++ k)) m else .no := rfl
theorem subD_int : subD (.int i) (.int j) m = .ok (.int (i - j)) m := rfl
theorem mulD_int : mulD (.int i) (.int j) m = if mulOk i j then .ok (.int (i * j)) m else .no := rfl
theorem modD_int : modD (.int i) (.int j) m = if decide (0 < j) then .ok (.int (i % j)) m else .no := rfl
theorem fdivD_int : fdivD (.int i) (.int j) m = if divOk j then .ok (.int (i / j)) m else .no := rfl
theorem powD_int : powD (.int i) (.int j) m = if powOk i j then .ok (.int (i ^ j.toNat)) m else .no := rfl
theorem negD_int : negD (.int i) m = .ok (.int (-i)) m := rfl
theorem cmpD_int {p : Int → Int → Bool} : cmpD p (.int i) (.int j) m = .ok (.bl (p i j)) m := rfl
theorem cmp_lt : cmpD (fun i j => decide (i < j)) (.int i) (.int j) m = .ok (.bl (decide (i < j))) m := rfl
theorem cmp_le : cmpD (fun i j => decide (i ≤ j)) (.int i) (.int j) m = .ok (.bl (decide (i ≤ j))) m := rfl
theorem cmp_gt : cmpD (fun i j => decide (j < i)) (.int i) (.int j) m = .ok (.bl (decide (j < i))) m := rfl
theorem cmp_ge : cmpD (fun i j => decide (j ≤ i)) (.int i) (.int j) m = .ok (.bl (decide (j ≤ i))) m := rfl
theorem intD_int : DL.intD [.int i] m = .ok (.int i) m := rfl
theorem intD_bl : DL.intD [.bl b] m = .ok (.int (if b then 1 else 0)) m := rfl
theorem absD_int : absD [.int i] m = .ok (.int (if i < 0 then -i else i)) m := rfl
theorem lenD_lst : lenD [.lst l] m = .ok (.int l.length) m := rfl
theorem lenD_tup : lenD [.tup l] m = .ok (.int l.length) m := rfl
theorem lenD_str : lenD [.str x] m = if fits x.length then .ok (.int x.length) m else .no := rfl
theorem tru_bl : truD m (.bl b) = some b := rfl
theorem tru_non : truD m .non = some false := rfl
theorem tru_int : truD m (.int i) = some (i != 0) := rfl
theorem tru_tup : truD m (.tup l) = some (!l.isEmpty) := rfl
theorem tru_lst : truD m (.lst l) = some (!l.isEmpty) := rfl
theorem ixD_lst : ixD (.lst l) (.int i) m = match atI l i with
  | some v => .ok v m
  | none => .no := by
  show (match atI l i with
    | some v => R.ok v m
    | none => .no) = _
  rfl
theorem ixD_tup : ixD (.tup l) (.int i) m = match atI l i with
  | some v => .ok v m
  | none => .no := rfl
theorem max2D_int : max2D [.int i, .int j] m = .ok (.int (if j > i then j else i)) m := rfl
theorem tupleD_lst : tupleD [.lst l] m = .ok (.tup l) m := rfl
theorem tupleD_tup : tupleD [.tup l] m = .ok (.tup l) m := rfl
theorem listD_tup : DL.listD [.tup l] m = .ok (.lst l) m := rfl
theorem frzR_lst : frzR (.lst l) m = .ok (.lst l) m := rfl
theorem frzR_tup : frzR (.tup l) m = .ok (.tup l) m := rfl
variable {α : Type} {a a1 a2 a3 a4 : α} {r : List α}
theorem atI_0 : atI (a :: r) 0 = some a := atI_nat (by decide) rfl
theorem atI_1 : atI (a :: a1 :: r) 1 = some a1 := atI_nat (by decide) rfl
theorem atI_2 : atI (a :: a1 :: a2 :: r) 2 = some a2 := atI_nat (by decide) rfl
theorem atI_3 : atI (a :: a1 :: a2 :: a3 :: r) 3 = some a3 := atI_nat (by decide) rfl
theorem atI_4 : atI (a :: a1 :: a2 :: a3 :: a4 :: r) 4 = some a4 := atI_nat (by decide) rfl
theorem ixN5_0 : ixN 5 0 = some 0 := by decide
theorem ixN5_1 : ixN 5 1 = some 1 := by decide
theorem ixN5_2 : ixN 5 2 = some 2 := by decide
theorem ixN5_3 : ixN 5 3 = some 3 := by decide
theorem ixN5_4 : ixN 5 4 = some 4 := by decide
end
section
variable {m : List C} {n : Nat} {i : Int} {l : List D} {v : D}
theorem set_here (h : n < m.length) {c : C} : (m.set n c)[n]? = some c := List.getElem?_set_self h
theorem ixD_set (h : n < m.length) : ixD (.cell n) (.int i) (m.set n (.lst l)) = match atI l i with
  | some v => .ok v (m.set n (.lst l))
  | none => .no := by
  have e : seqOf (m.set n (.lst l)) (.cell n) = some l := by
    unfold seqOf lstOf
    simp only [set_here h]
  unfold ixD
  simp only [e]
  all_goals (cases atI l i <;> rfl)
theorem setD_set (h : n < m.length) : setD (.cell n) (.int i) v (m.set n (.lst l)) = (ixN l.length i).map fun j => m.set n (.lst (l.set j v)) := by
  unfold setD
  simp only [set_here h, List.set_set]
theorem cell_at {c : C} (h : m[n]? = some c) : ∃ m0 : List C, n < m0.length ∧ m = m0.set n c := by
  obtain ⟨h1, h2⟩ := List.getElem?_eq_some_iff.mp h
  exact ⟨m, h1, by rw [← h2, List.set_getElem_self]⟩
end
end DL


/-! DLx: the hand that a law draws from. -/
namespace DL
open PySem PySem.Spec L2
open PyProof.Rows hiding St

/-- the hand's list -/
abbrev handL (cells : List Int) (c1 c2 c3 c4 : Int) : C := .lst [.lst (cells.map D.int), .int c1, .int c2, .int c3, .int c4]
def HandC (b : Nat) (c : C) : Prop := ∃ (cells : List Int) (c1 c2 c3 c4 : Int), c = handL cells c1 c2 c3 c4 ∧
  cells.length ≤ 63 ∧ 0 ≤ c1 ∧ 0 ≤ c2 ∧ (∀ x ∈ cells, 0 ≤ x) ∧ 0 ≤ c3 ∧ c3 < 4294967296 ∧ 0 ≤ c4 ∧ c4 ≤ b
/-- the hand at the cell n: b draws were made at most -/
def Hand (n b : Nat) (m : List C) : Prop := ∃ c, m[n]? = some c ∧ HandC b c
theorem HandC.mono {b b' : Nat} {c : C} (h : HandC b c) (hb : b ≤ b') : HandC b' c := by
  obtain ⟨cells, c1, c2, c3, c4, e, h1, h2, h3, h4, h5, h6, h7, h8⟩ := h
  exact ⟨cells, c1, c2, c3, c4, e, h1, h2, h3, h4, h5, h6, h7, by omega⟩
theorem Hand.mono {n b b' : Nat} {m : List C} (h : Hand n b m) (hb : b ≤ b') : Hand n b' m := by
  obtain ⟨c, e, h⟩ := h
  exact ⟨c, e, h.mono hb⟩
theorem Hand.app {n b : Nat} {m g : List C} (h : Hand n b m) : Hand n b (m ++ g) := by
  obtain ⟨c, e, h⟩ := h
  exact ⟨c, by rw [List.getElem?_append_left (List.getElem?_eq_some_iff.mp e).1]; exact e, h⟩

section
variable (a1 b1 m1 a2 a3 m2 d1 e1 m3 d2 e2 m4 d3 : Int)
/-- a fresh cell is taken up -/
def drawA : SS :=
  (sIf (bAnd (bTest (eBin eqD (eBin ixD (eVar 0) (eC (.int 2))) (eC (.int 0)))) (bTest (eBin (cmpD fun i j => decide (i < j)) (eBin ixD (eVar 0) (eC (.int 1))) (eAr lenD (aCons (eBin ixD (eVar 0) (eC (.int 0))) aNil))))) (sSeq (sSet 2 (eBin ixD (eBin ixD (eVar 0) (eC (.int 0))) (eBin ixD (eVar 0) (eC (.int 1)))))
    (sSeq (sSub (eVar 0) (eC (.int 1)) (eBin addD (eBin ixD (eVar 0) (eC (.int 1))) (eC (.int 1))))
    (sSeq (sSub (eVar 0) (eC (.int 3)) (eBin modD (eAr DL.intD (aCons (eBin addD (eBin addD (eBin mulD (eBin ixD (eVar 0) (eC (.int 3))) (eC (.int a1))) (eVar 2)) (eC (.int b1))) aNil)) (eC (.int m1))))
    (sIf (bTest (eBin (cmpD fun i j => decide (j ≤ i)) (eVar 2) (eBin powD (eC (.int 10)) (eC (.int 18))))) (sSub (eVar 0) (eC (.int 2)) (eVar 2)) sSkip)))) sSkip)
/-- a digit of the held cell -/
def drawB : SS :=
  (sIf (bTest (eBin (cmpD fun i j => decide (j < i)) (eBin ixD (eVar 0) (eC (.int 2))) (eC (.int 0)))) (sSeq (sSet 3 (eBin modD (eAr DL.intD (aCons (eBin ixD (eVar 0) (eC (.int 2))) aNil)) (eVar 1)))
    (sSeq (sSub (eVar 0) (eC (.int 2)) (eBin fdivD (eBin ixD (eVar 0) (eC (.int 2))) (eVar 1)))
    (sRet (eVar 3)))) sSkip)
/-- a number of the hand's own -/
def drawC1 : SS := sSub (eVar 0) (eC (.int 4)) (eBin addD (eBin ixD (eVar 0) (eC (.int 4))) (eC (.int 1)))
def drawC2 : SS := sSet 4 (eBin modD (eAr DL.intD (aCons (eBin mulD (eAr DL.intD (aCons (eBin addD (eBin ixD (eVar 0) (eC (.int 3))) (eBin mulD (eC (.int a2)) (eBin ixD (eVar 0) (eC (.int 4))))) aNil)) (eC (.int a3))) aNil)) (eC (.int m2)))
def drawC3 : SS := sSet 4 (eBin modD (eAr DL.intD (aCons (eBin mulD (eVar 4) (eBin addD (eBin fdivD (eVar 4) (eC (.int d1))) (eC (.int e1)))) aNil)) (eC (.int m3)))
def drawC5 : SS := sRet (eBin modD (eAr DL.intD (aCons (eBin fdivD (eVar 4) (eC (.int d3))) aNil)) (eVar 1))
def drawC : SS := sSeq drawC1 (sSeq (drawC2 a2 a3 m2) (sSeq (drawC3 d1 e1 m3) (sSeq (drawC3 d2 e2 m4) (drawC5 d3))))
def drawS : SS := sSeq (drawA a1 b1 m1) (sSeq drawB (drawC a2 a3 m2 d1 e1 m3 d2 e2 m4 d3))
def small32 (i : Int) : Bool := decide (0 < i) && decide (i < 4294967296)
def drawK : Bool := small32 a1 && small32 b1 && small32 m1 && small32 a2 && small32 a3 && small32 m2 && small32 d1 && small32 e1 && small32 m3 && small32 d2 && small32 e2 && small32 m4 && small32 d3
end
theorem mulOk_small {i j : Int} (h0 : 0 ≤ i) (h1 : i < 1000000000000000000000000000000) (h2 : 0 ≤ j) (h3 : j < 1000000000000000000000000000000) : mulOk i j = true := by
  refine mulOk_of ?_ ?_
  · refine Nat.lt_of_lt_of_le (show i.natAbs < 2 ^ 100 by omega) (Nat.pow_le_pow_right (by decide) (by decide))
  · refine Nat.lt_of_lt_of_le (show j.natAbs < 2 ^ 100 by omega) (Nat.pow_le_pow_right (by decide) (by decide))
theorem divOk_small {j : Int} (h2 : 0 < j) (h3 : j < 1000000000000000000000000000000) : divOk j = true := by
  have := log2_le (show j.natAbs < 2 ^ 100 by omega)
  unfold divOk
  rw [Bool.and_eq_true, decide_eq_true_eq, decide_eq_true_eq]
  exact ⟨h2, by omega⟩
section
variable {a1 b1 m1 a2 a3 m2 d1 e1 m3 d2 e2 m4 d3 : Int}
set_option maxHeartbeats 1000000 in
theorem drawA_ok {n b : Nat} {m0 : List C} {k : Int} {c : C} {N B Ct : Env → List C → Prop} {T : D → List C → Prop} (hn : n < m0.length) (h : HandC b c) (h1 : small32 a1 = true) (h2 : small32 b1 = true) (h3 : small32 m1 = true)
    (hN : ∀ e c', HandC b c' → N [some (.cell n), some (.int k), e, none, none] (m0.set n c')) : wS (drawA a1 b1 m1 [some (.cell n), some (.int k), none, none, none] (m0.set n c)) N T B Ct := by
  obtain ⟨cells, c1, c2, c3, c4, rfl, k1, k2, k3, k4, k5, k6, k7, k8⟩ := h
  unfold small32 at h1 h2 h3
  simp only [Bool.and_eq_true, decide_eq_true_eq] at h1 h2 h3
  unfold drawA
  have i0 := fun l => ixD_set (m := m0) (l := l) (i := 0) hn
  simp only [sIf, wS_go, bAnd, bOr, bNot, bTest, bTru, bYes, eBin, eUn, eAr, eVar, eC, aCons, aNil, wR_bind, wR_ok, List.getElem?_cons_zero, List.getElem?_cons_succ, decide_true, decide_false, Bool.not_true, Bool.not_false, Bool.false_eq_true, if_true, if_false, reduceIte, ixD_set hn, atI_0, atI_1, atI_2, addD_int, subD_int, mulD_int, modD_int, fdivD_int, powD_int, negD_int, cmp_lt, cmp_le, cmp_gt, cmp_ge, intD_int, intD_bl, absD_int, lenD_lst, lenD_tup, eqD_int, neD_int, eqD_bl, neD_bl, List.length_map]
  have hand0 : HandC b (handL cells c1 c2 c3 c4) := ⟨cells, c1, c2, c3, c4, rfl, k1, k2, k3, k4, k5, k6, k7, k8⟩
  by_cases q : c2 = 0
  · by_cases q1 : c1 < cells.length
    · have hc : cells[c1.toNat]? = some (cells[c1.toNat]'(by omega)) := List.getElem?_eq_getElem _
      generalize cells[c1.toNat]'(by omega) = x at hc
      have hx : 0 ≤ x := k4 x (List.mem_of_getElem? hc)
      have ha : atI (cells.map D.int) c1 = some (.int x) := atI_nat k2 (by rw [List.getElem?_map, hc]; rfl)
      have hm1 : mulOk c3 a1 = true := mulOk_small (by omega) (by omega) (by omega) (by omega)
      have hp : powOk 10 18 = true := by decide
      simp only [q, q1, bAnd, bOr, bNot, bTest, bTru, bYes, eBin, eUn, eAr, eVar, eC, aCons, aNil, wR_bind, wR_ok, List.getElem?_cons_zero, List.getElem?_cons_succ, decide_true, decide_false, Bool.not_true, Bool.not_false, Bool.false_eq_true, if_true, if_false, reduceIte, ixD_set hn, atI_0, atI_1, atI_2, addD_int, subD_int, mulD_int, modD_int, fdivD_int, powD_int, negD_int, cmp_lt, cmp_le, cmp_gt, cmp_ge, intD_int, intD_bl, absD_int, lenD_lst, lenD_tup, eqD_int, neD_int, eqD_bl, neD_bl, List.length_map, wS_go]
      simp only [q, q1, decide_true, if_true, sSeq, wS_seq, sSet, wS_go, eBin, eAr, eVar, eC, aCons, aNil, wR_bind, wR_ok, wS_nx, List.getElem?_cons_zero, List.getElem?_cons_succ, List.set_cons_zero, List.set_cons_succ, ixD_set hn, ixD_lst, atI_0, atI_1, ha]
      simp only [sSub, wS_go, eBin, eAr, eVar, eC, aCons, aNil, wR_bind, wR_ok, wS_nx, List.getElem?_cons_zero, List.getElem?_cons_succ, List.set_cons_zero, List.set_cons_succ, ixD_set hn, setD_set hn, atI_0, atI_1, atI_3, addD_int, List.length_cons, List.length_nil, Nat.reduceAdd, ixN5_1, ixN5_3, Option.map_some, wS_optM, mulD_int, hm1, if_true, intD_int, modD_int, h3, decide_true]
      simp only [sIf, bTest, wS_go, eBin, eAr, eVar, eC, aCons, aNil, wR_bind, wR_ok, wS_nx, List.getElem?_cons_zero, List.getElem?_cons_succ, powD_int, hp, if_true, cmpD_int]
      have fin : ∀ c2', 0 ≤ c2' → HandC b (handL cells (c1 + 1) c2' ((c3 * a1 + x + b1) % m1) c4) := fun c2' h0 =>
        ⟨cells, c1 + 1, c2', _, c4, rfl, k1, by omega, h0, k4, Int.emod_nonneg _ (by omega), Int.lt_trans (Int.emod_lt_of_pos _ h3.1) h3.2, k7, k8⟩
      by_cases q2 : (10 : Int) ^ (18 : Int).toNat ≤ x
      · simp only [q2, decide_true, if_true, sSub, wS_go, eVar, eC, wR_ok, List.getElem?_cons_zero, List.getElem?_cons_succ, setD_set hn, List.length_cons, List.length_nil, Nat.reduceAdd, ixN5_2, Option.map_some, wS_optM, wS_nx]
        exact hN _ _ (fin x hx)
      · simp only [q2, decide_false, Bool.false_eq_true, if_false, sSkip, wS_nx]
        exact hN _ _ (fin 0 (by omega))
    · simp only [q, q1, bAnd, bOr, bNot, bTest, bTru, bYes, eBin, eUn, eAr, eVar, eC, aCons, aNil, wR_bind, wR_ok, List.getElem?_cons_zero, List.getElem?_cons_succ, decide_true, decide_false, Bool.not_true, Bool.not_false, Bool.false_eq_true, if_true, if_false, reduceIte, ixD_set hn, atI_0, atI_1, atI_2, addD_int, subD_int, mulD_int, modD_int, fdivD_int, powD_int, negD_int, cmp_lt, cmp_le, cmp_gt, cmp_ge, intD_int, intD_bl, absD_int, lenD_lst, lenD_tup, eqD_int, neD_int, eqD_bl, neD_bl, List.length_map, wS_go, sSkip, wS_nx]
      subst q
      exact hN _ _ hand0
  · simp only [q, decide_false, Bool.false_eq_true, if_false, wR_ok, sSkip, wS_nx]
    exact hN _ _ hand0
set_option maxHeartbeats 1000000 in
theorem drawB_ok {n b : Nat} {m0 : List C} {k : Int} {c : C} {e : Option D} {N B Ct : Env → List C → Prop} {T : D → List C → Prop} (hn : n < m0.length) (h : HandC b c) (hk : 1 ≤ k) (hk2 : k < 4294967296)
    (hN : N [some (.cell n), some (.int k), e, none, none] (m0.set n c)) (hT : ∀ j c', 0 ≤ j → j < k → HandC b c' → T (.int j) (m0.set n c')) : wS (drawB [some (.cell n), some (.int k), e, none, none] (m0.set n c)) N T B Ct := by
  obtain ⟨cells, c1, c2, c3, c4, rfl, k1, k2, k3, k4, k5, k6, k7, k8⟩ := h
  have hd : divOk k = true := divOk_small (by omega) (by omega)
  have hk0 : 0 < k := by omega
  unfold drawB
  simp only [sIf, bTest, wS_go, eBin, eAr, eVar, eC, aCons, aNil, wR_bind, wR_ok, List.getElem?_cons_zero, List.getElem?_cons_succ, ixD_set hn, atI_2, cmpD_int]
  by_cases q : 0 < c2
  · simp only [q, decide_true, if_true, sSeq, wS_seq, sSet, sSub, sRet, wS_go, eBin, eAr, eVar, eC, aCons, aNil, wR_bind, wR_ok, wS_nx, wS_rt, List.getElem?_cons_zero, List.getElem?_cons_succ, List.set_cons_zero, List.set_cons_succ, ixD_set hn, setD_set hn, atI_2, intD_int, modD_int, hk0, fdivD_int, hd, List.length_cons, List.length_nil, Nat.reduceAdd, ixN5_2, Option.map_some, wS_optM]
    exact hT _ _ (Int.emod_nonneg _ (by omega)) (Int.emod_lt_of_pos _ hk0) ⟨cells, c1, c2 / k, c3, c4, rfl, k1, k2, Int.ediv_nonneg k3 (by omega), k4, k5, k6, k7, k8⟩
  · simp only [q, decide_false, Bool.false_eq_true, if_false, sSkip, wS_nx]
    exact hN
section
variable {n b : Nat} {m0 : List C} {k : Int} {e f : Option D} {cells : List Int} {c1 c2 c3 c4 x : Int} {m : List C} {N B Ct : Env → List C → Prop} {T : D → List C → Prop}
theorem drawC1_ok (hn : n < m0.length) (hN : N [some (.cell n), some (.int k), e, none, f] (m0.set n (handL cells c1 c2 c3 (c4 + 1)))) : wS (drawC1 [some (.cell n), some (.int k), e, none, f] (m0.set n (handL cells c1 c2 c3 c4))) N T B Ct := by
  unfold drawC1
  simp only [sSub, wS_go, bAnd, bOr, bNot, bTest, bTru, bYes, eBin, eUn, eAr, eVar, eC, aCons, aNil, wR_bind, wR_ok, List.getElem?_cons_zero, List.getElem?_cons_succ, decide_true, decide_false, Bool.not_true, Bool.not_false, Bool.false_eq_true, if_true, if_false, reduceIte, ixD_set hn, setD_set hn, atI_0, atI_1, atI_2, atI_3, atI_4, ixN5_0, ixN5_1, ixN5_2, ixN5_3, ixN5_4, List.length_cons, List.length_nil, Nat.reduceAdd, Option.map_some, addD_int, wS_optM, wS_nx, List.set_cons_zero, List.set_cons_succ]
  exact hN
theorem drawC2_ok (hn : n < m0.length) (hm1 : mulOk a2 c4 = true) (hm2 : mulOk (c3 + a2 * c4) a3 = true) (h4 : 0 < m2) (hN : N [some (.cell n), some (.int k), e, none, some (.int ((c3 + a2 * c4) * a3 % m2))] (m0.set n (handL cells c1 c2 c3 c4))) :
    wS (drawC2 a2 a3 m2 [some (.cell n), some (.int k), e, none, f] (m0.set n (handL cells c1 c2 c3 c4))) N T B Ct := by
  unfold drawC2
  simp only [sSet, wS_go, bAnd, bOr, bNot, bTest, bTru, bYes, eBin, eUn, eAr, eVar, eC, aCons, aNil, wR_bind, wR_ok, List.getElem?_cons_zero, List.getElem?_cons_succ, decide_true, decide_false, Bool.not_true, Bool.not_false, Bool.false_eq_true, if_true, if_false, reduceIte, ixD_set hn, atI_0, atI_1, atI_2, atI_3, atI_4, ixN5_0, ixN5_1, ixN5_2, ixN5_3, ixN5_4, List.length_cons, List.length_nil, Nat.reduceAdd, Option.map_some, addD_int, mulD_int, hm1, hm2, intD_int, modD_int, h4, wS_nx, List.set_cons_zero, List.set_cons_succ]
  exact hN
theorem drawC3_ok (hd : divOk d1 = true) (hm : mulOk x (x / d1 + e1) = true) (h4 : 0 < m3) (hN : N [some (.cell n), some (.int k), e, none, some (.int (x * (x / d1 + e1) % m3))] m) :
    wS (drawC3 d1 e1 m3 [some (.cell n), some (.int k), e, none, some (.int x)] m) N T B Ct := by
  unfold drawC3
  simp only [sSet, wS_go, bAnd, bOr, bNot, bTest, bTru, bYes, eBin, eUn, eAr, eVar, eC, aCons, aNil, wR_bind, wR_ok, List.getElem?_cons_zero, List.getElem?_cons_succ, decide_true, decide_false, Bool.not_true, Bool.not_false, Bool.false_eq_true, if_true, if_false, reduceIte, addD_int, mulD_int, fdivD_int, hm, hd, intD_int, modD_int, h4, wS_nx, List.set_cons_zero, List.set_cons_succ]
  exact hN
theorem drawC5_ok (hd : divOk d3 = true) (h4 : 0 < k) (hT : T (.int (x / d3 % k)) m) :
    wS (drawC5 d3 [some (.cell n), some (.int k), e, none, some (.int x)] m) N T B Ct := by
  unfold drawC5
  simp only [sRet, wS_go, bAnd, bOr, bNot, bTest, bTru, bYes, eBin, eUn, eAr, eVar, eC, aCons, aNil, wR_bind, wR_ok, List.getElem?_cons_zero, List.getElem?_cons_succ, decide_true, decide_false, Bool.not_true, Bool.not_false, Bool.false_eq_true, if_true, if_false, reduceIte, fdivD_int, hd, intD_int, modD_int, h4, wS_rt]
  exact hT
theorem drawC_ok {c : C} (hn : n < m0.length) (h : HandC b c) (hb : b < 100000000) (hk : 1 ≤ k) (hk2 : k < 4294967296)
    (h2 : small32 a2 = true) (h3 : small32 a3 = true) (h4 : small32 m2 = true) (h5 : small32 d1 = true) (h6 : small32 e1 = true) (h7 : small32 m3 = true) (h8 : small32 d2 = true) (h9 : small32 e2 = true) (h10 : small32 m4 = true) (h11 : small32 d3 = true)
    (hT : ∀ j c', 0 ≤ j → j < k → HandC (b + 1) c' → T (.int j) (m0.set n c')) : wS (drawC a2 a3 m2 d1 e1 m3 d2 e2 m4 d3 [some (.cell n), some (.int k), e, none, f] (m0.set n c)) N T B Ct := by
  obtain ⟨cells, c1, c2, c3, c4, rfl, k1, k2, k3, k4, k5, k6, k7, k8⟩ := h
  unfold small32 at h2 h3 h4 h5 h6 h7 h8 h9 h10 h11
  simp only [Bool.and_eq_true, decide_eq_true_eq] at h2 h3 h4 h5 h6 h7 h8 h9 h10 h11
  have mulB : ∀ {x y X Y : Int}, 0 ≤ x → x ≤ X → 0 ≤ y → y ≤ Y → 0 ≤ x * y ∧ x * y ≤ X * Y := fun h1 h2 h3 h4 => ⟨Int.mul_nonneg h1 h3, Int.mul_le_mul h2 h4 h3 (Int.le_trans h1 h2)⟩
  obtain ⟨u1, u2⟩ := mulB (x := a2) (y := c4 + 1) (X := 4294967296) (Y := 100000001) (by omega) (by omega) (by omega) (by omega)
  have step : ∀ (x d e : Int), 0 ≤ x → x < 4294967296 → 0 < d → 0 < e → e < 4294967296 → mulOk x (x / d + e) = true := fun x d e g1 g2 g3 g4 g5 => by
    have p1 : 0 ≤ x / d := Int.ediv_nonneg g1 (by omega)
    have p2 : x / d ≤ x := Int.ediv_le_self _ g1
    exact mulOk_small g1 (by omega) (by omega) (by omega)
  unfold drawC
  show wS ((drawC1 _ _).seq _) _ _ _ _
  rw [wS_seq]
  refine drawC1_ok hn ?_
  show wS ((drawC2 _ _ _ _ _).seq _) _ _ _ _
  rw [wS_seq]
  refine drawC2_ok hn (mulOk_small (by omega) (by omega) (by omega) (by omega)) (mulOk_small (by omega) (by omega) (by omega) (by omega)) h4.1 ?_
  have r1 := Int.emod_nonneg ((c3 + a2 * (c4 + 1)) * a3) (show m2 ≠ 0 by omega)
  have r2 := Int.emod_lt_of_pos ((c3 + a2 * (c4 + 1)) * a3) h4.1
  generalize (c3 + a2 * (c4 + 1)) * a3 % m2 = x1 at r1 r2
  show wS ((drawC3 _ _ _ _ _).seq _) _ _ _ _
  rw [wS_seq]
  refine drawC3_ok (divOk_small h5.1 (by omega)) (step x1 d1 e1 r1 (by omega) h5.1 h6.1 h6.2) h7.1 ?_
  have r3 := Int.emod_nonneg (x1 * (x1 / d1 + e1)) (show m3 ≠ 0 by omega)
  have r4 := Int.emod_lt_of_pos (x1 * (x1 / d1 + e1)) h7.1
  generalize x1 * (x1 / d1 + e1) % m3 = x2 at r3 r4
  show wS ((drawC3 _ _ _ _ _).seq _) _ _ _ _
  rw [wS_seq]
  refine drawC3_ok (divOk_small h8.1 (by omega)) (step x2 d2 e2 r3 (by omega) h8.1 h9.1 h9.2) h10.1 ?_
  exact drawC5_ok (divOk_small h11.1 (by omega)) (by omega) (hT _ _ (Int.emod_nonneg _ (by omega)) (Int.emod_lt_of_pos _ (by omega)) ⟨cells, c1, c2, c3, c4 + 1, rfl, k1, k2, k3, k4, k5, k6, by omega, by omega⟩)
end
/-- a draw: a number below k, the hand a hand still -/
theorem draw_ok {n b : Nat} {m : List C} {k : Int} (hK : drawK a1 b1 m1 a2 a3 m2 d1 e1 m3 d2 e2 m4 d3 = true) (h : Hand n b m) (hb : b < 100000000) (hk : 1 ≤ k) (hk2 : k < 4294967296) (Q : D → List C → Prop)
    (hQ : ∀ (j : Int) (c' : C), 0 ≤ j → j < k → HandC (b + 1) c' → Q (.int j) (m.set n c')) : wR (fnD 5 (drawS a1 b1 m1 a2 a3 m2 d1 e1 m3 d2 e2 m4 d3) [.cell n, .int k] m) Q := by
  obtain ⟨c, hc, h⟩ := h
  obtain ⟨m0, hn, rfl⟩ := cell_at hc
  unfold drawK at hK
  simp only [Bool.and_eq_true] at hK
  obtain ⟨⟨⟨⟨⟨⟨⟨⟨⟨⟨⟨⟨g1, g2⟩, g3⟩, g4⟩, g5⟩, g6⟩, g7⟩, g8⟩, g9⟩, g10⟩, g11⟩, g12⟩, g13⟩ := hK
  rw [wR_fn]
  show wS ((drawA a1 b1 m1 [some (.cell n), some (.int k), none, none, none] (m0.set n c)).seq _) _ _ _ _
  rw [wS_seq]
  refine drawA_ok hn h g1 g2 g3 fun e c' hc' => ?_
  show wS ((drawB _ _).seq _) _ _ _ _
  rw [wS_seq]
  refine drawB_ok hn hc' hk hk2 ?_ fun j c' h1 h2 h3 => ?_
  · refine drawC_ok hn hc' hb hk hk2 g4 g5 g6 g7 g8 g9 g10 g11 g12 g13 fun j c' h1 h2 h3 => ?_
    have := hQ j c' h1 h2 h3
    rwa [List.set_set] at this
  · have := hQ j c' h1 h2 (h3.mono (Nat.le_succ _))
    rwa [List.set_set] at this
end
end DL


/-! P02: marks as sorted lists of pairs; dicts of ints as lists of pairs. -/
namespace DL
open PySem PySem.Spec L2
open PyProof.Rows hiding St

abbrev Pr := List (Int × Int)
/-- a dict's value at k, 0 where it has none -/
def getP (p : Pr) (k : Int) : Int := match p.find? fun z => decide (z.1 = k) with
  | some z => z.2
  | none => 0
def keysP (p : Pr) : List Int := p.map (·.1)
def putP (p : Pr) (k v : Int) : Pr := if k ∈ keysP p then p.map fun z => if z.1 = k then (z.1, v) else z else p ++ [(k, v)]
theorem getP_nil {k : Int} : getP [] k = 0 := rfl
theorem getP_cons {a v k : Int} {p : Pr} : getP ((a, v) :: p) k = if a = k then v else getP p k := by
  unfold getP
  rw [List.find?_cons]
  by_cases h : a = k <;> simp [h]
theorem getP_not {p : Pr} {k : Int} (h : k ∉ keysP p) : getP p k = 0 := by
  induction p with
  | nil => rfl
  | cons z p ih =>
    obtain ⟨a, v⟩ := z
    unfold keysP at h
    rw [List.map_cons, List.mem_cons, not_or] at h
    rw [getP_cons, if_neg (fun e => h.1 e.symm)]
    exact ih h.2
theorem getP_mem {p : Pr} {k v : Int} (hn : (keysP p).Nodup) (h : (k, v) ∈ p) : getP p k = v := by
  induction p with
  | nil => cases h
  | cons z p ih =>
    obtain ⟨a, b⟩ := z
    unfold keysP at hn
    rw [List.map_cons, List.nodup_cons] at hn
    rw [getP_cons]
    rcases List.mem_cons.mp h with e | h
    · cases e
      rw [if_pos rfl]
    · rw [if_neg, ih hn.2 h]
      intro e
      subst e
      exact hn.1 (List.mem_map.mpr ⟨_, h, rfl⟩)
theorem mem_getP {p : Pr} {k : Int} (h : k ∈ keysP p) : (k, getP p k) ∈ p := by
  induction p with
  | nil => cases h
  | cons z p ih =>
    obtain ⟨a, b⟩ := z
    rw [getP_cons]
    by_cases e : a = k
    · subst e
      rw [if_pos rfl]
      exact List.mem_cons_self
    · rw [if_neg e]
      refine List.mem_cons_of_mem _ (ih ?_)
      unfold keysP at h
      rw [List.map_cons, List.mem_cons] at h
      exact h.resolve_left fun z => e z.symm
theorem getP_app {p r : Pr} {k : Int} : getP (p ++ r) k = if k ∈ keysP p then getP p k else getP r k := by
  induction p with
  | nil => simp [keysP]
  | cons z p ih =>
    obtain ⟨a, b⟩ := z
    rw [List.cons_append, getP_cons, getP_cons, ih]
    by_cases e : a = k
    · simp [e, keysP]
    · have : (k ∈ keysP ((a, b) :: p)) ↔ k ∈ keysP p := by
        unfold keysP
        rw [List.map_cons, List.mem_cons]
        exact ⟨fun h => h.resolve_left fun z => e z.symm, .inr⟩
      simp [e, this]
theorem keys_put {p : Pr} {k v : Int} : keysP (putP p k v) = if k ∈ keysP p then keysP p else keysP p ++ [k] := by
  unfold putP
  split
  · unfold keysP
    rw [List.map_map]
    refine List.map_congr_left fun z _ => ?_
    show (if z.1 = k then (z.1, v) else z).1 = z.1
    split <;> rfl
  · simp [keysP]
theorem nodup_put {p : Pr} {k v : Int} (h : (keysP p).Nodup) : (keysP (putP p k v)).Nodup := by
  rw [keys_put]
  split
  · exact h
  · rename_i hk
    rw [List.nodup_append]
    exact ⟨h, List.nodup_cons.mpr ⟨(fun z => nomatch z), List.nodup_nil⟩, fun a ha b hb e => hk (by rw [← List.mem_singleton.mp hb, ← e]; exact ha)⟩
theorem getP_put {p : Pr} {k v j : Int} : getP (putP p k v) j = if k = j then v else getP p j := by
  unfold putP
  split
  · rename_i hk
    have key : ∀ q : Pr, getP (q.map fun z => if z.1 = k then (z.1, v) else z) j = if k = j ∧ k ∈ keysP q then v else getP q j := by
      intro q
      induction q with
      | nil => simp [getP_nil, keysP]
      | cons z q ih =>
        obtain ⟨a, b⟩ := z
        rw [List.map_cons]
        by_cases e : a = k
        · subst e
          rw [if_pos rfl, getP_cons, getP_cons, ih]
          by_cases e2 : a = j <;> simp [e2, keysP]
        · rw [if_neg e, getP_cons, getP_cons, ih]
          by_cases e2 : a = j
          · subst e2
            rw [if_pos rfl, if_pos rfl, if_neg (fun z => e z.1.symm)]
          · have : (k ∈ keysP ((a, b) :: q)) ↔ k ∈ keysP q := by
              unfold keysP
              rw [List.map_cons, List.mem_cons]
              exact ⟨fun h => h.resolve_left fun z => e z.symm, .inr⟩
            simp [e2, this]
    rw [key]
    simp [hk]
  · rename_i hk
    rw [getP_app]
    by_cases e : k = j
    · subst e
      simp [hk, getP_cons]
    · rw [if_neg e, getP_cons, if_neg e, getP_nil]
      split
      · rfl
      · rename_i h
        exact (getP_not h).symm

/-! ### marks -/
/-- sorted by the first, every second at least 1 -/
structure Mk (p : Pr) : Prop where
  s : (keysP p).Pairwise (· < ·)
  v : ∀ z ∈ p, 1 ≤ z.2
theorem Mk.nodup {p : Pr} (h : Mk p) : (keysP p).Nodup := h.s.imp fun h => by omega
theorem Mk.pos {p : Pr} (h : Mk p) {k : Int} (hk : k ∈ keysP p) : 1 ≤ getP p k := h.v _ (mem_getP hk)
theorem Mk.ge {p : Pr} (h : Mk p) (k : Int) : 0 ≤ getP p k := by
  by_cases hk : k ∈ keysP p
  · have := h.pos hk
    omega
  · rw [getP_not hk]
    omega
theorem Mk.mem {p : Pr} (h : Mk p) {k : Int} : k ∈ keysP p ↔ 1 ≤ getP p k := by
  refine ⟨h.pos, fun h1 => ?_⟩
  cases Classical.em (k ∈ keysP p) with
  | inl h => exact h
  | inr h => rw [getP_not h] at h1; omega
theorem pairs_of_keys {p : Pr} (h : (keysP p).Nodup) : p = (keysP p).map fun k => (k, getP p k) := by
  unfold keysP
  rw [List.map_map]
  conv => lhs; rw [← List.map_id p]
  refine List.map_congr_left fun z hz => ?_
  obtain ⟨a, b⟩ := z
  show (a, b) = (a, getP p a)
  rw [getP_mem h hz]
/-- marks are told by their values -/
theorem Mk.ext {p q : Pr} (hp : Mk p) (hq : Mk q) (h : ∀ k, getP p k = getP q k) : p = q := by
  have hk : keysP p = keysP q := strict_uniq hp.s hq.s fun k => by rw [hp.mem, hq.mem, h]
  rw [pairs_of_keys hp.nodup, pairs_of_keys hq.nodup, hk]
  exact List.map_congr_left fun k _ => by rw [h]
/-- a dict's pairs, sorted -/
theorem isort_mk {p : Pr} (hn : (keysP p).Nodup) (hv : ∀ z ∈ p, 1 ≤ z.2) : Mk (isort p) ∧ ∀ k, getP (isort p) k = getP p k := by
  have hp : (isort p).Perm p := List.mergeSort_perm p pairLe
  have hk : (keysP (isort p)).Perm (keysP p) := hp.map _
  have hs : (isort p).Pairwise fun a b => pairLe a b = true := List.pairwise_mergeSort pairLe_trans pairLe_total p
  have hn2 : (keysP (isort p)).Nodup := hk.nodup_iff.mpr hn
  refine ⟨⟨?_, fun z hz => hv z (hp.mem_iff.mp hz)⟩, fun k => ?_⟩
  · unfold keysP at hn2 ⊢
    rw [List.pairwise_map]
    have h2 : (isort p).Pairwise fun a b => a.1 ≠ b.1 := List.pairwise_map.mp hn2
    refine (hs.and h2).imp fun {a b} h => ?_
    obtain ⟨h1, h2⟩ := h
    unfold pairLe at h1
    rw [Bool.not_eq_true'] at h1
    have := SrtO.lexB_no.mp h1
    omega
  · by_cases h : k ∈ keysP p
    · exact getP_mem hn2 (hp.mem_iff.mpr (mem_getP h))
    · rw [getP_not h, getP_not fun z => h (hk.mem_iff.mp z)]
/-- the greater of both, at every place -/
def joinP (a : Pr) : Pr → Pr
  | [] => a
  | (k, v) :: b => joinP (putP a k (max v (getP a k))) b
theorem joinP_spec : ∀ {b a : Pr}, (keysP a).Nodup → (∀ z ∈ a, 1 ≤ z.2) → (keysP b).Nodup → (∀ z ∈ b, 1 ≤ z.2) → (keysP (joinP a b)).Nodup ∧ (∀ z ∈ joinP a b, 1 ≤ z.2) ∧ ∀ k, getP (joinP a b) k = max (getP a k) (getP b k)
  | [], a, ha, va, _, _ => ⟨ha, va, fun k => by
      show getP a k = max (getP a k) 0
      have : 0 ≤ getP a k := by
        by_cases h : k ∈ keysP a
        · have := va _ (mem_getP h)
          simp at this
          omega
        · rw [getP_not h]; omega
      omega⟩
  | (k, v) :: b, a, ha, va, hb, vb => by
    unfold keysP at hb
    rw [List.map_cons, List.nodup_cons] at hb
    have v1 : 1 ≤ v := vb (k, v) List.mem_cons_self
    have va' : ∀ z ∈ putP a k (max v (getP a k)), 1 ≤ z.2 := by
      intro z hz
      unfold putP at hz
      split at hz
      · obtain ⟨y, hy, e⟩ := List.mem_map.mp hz
        split at e
        · subst e
          show 1 ≤ max v (getP a k)
          omega
        · subst e
          exact va y hy
      · rcases List.mem_append.mp hz with h | h
        · exact va z h
        · rw [List.mem_singleton.mp h]
          show 1 ≤ max v (getP a k)
          omega
    obtain ⟨h1, h2, h3⟩ := joinP_spec (b := b) (nodup_put (v := max v (getP a k)) ha) va' hb.2 fun z hz => vb z (List.mem_cons_of_mem _ hz)
    refine ⟨h1, h2, fun j => ?_⟩
    show getP (joinP (putP a k (max v (getP a k))) b) j = _
    rw [h3, getP_put, getP_cons]
    by_cases e : k = j
    · subst e
      have : getP b k = 0 := getP_not hb.1
      rw [if_pos rfl, if_pos rfl, this]
      omega
    · rw [if_neg e, if_neg e]
def bothP (a b : Pr) : Pr := isort (joinP a b)
theorem bothP_mk {a b : Pr} (ha : Mk a) (hb : Mk b) : Mk (bothP a b) ∧ ∀ k, getP (bothP a b) k = max (getP a k) (getP b k) := by
  obtain ⟨h1, h2, h3⟩ := joinP_spec ha.nodup ha.v hb.nodup hb.v
  obtain ⟨h4, h5⟩ := isort_mk h1 h2
  exact ⟨h4, fun k => by rw [bothP, h5, h3]⟩
theorem bothP_comm {a b : Pr} (ha : Mk a) (hb : Mk b) : bothP a b = bothP b a := by
  obtain ⟨h1, h2⟩ := bothP_mk ha hb
  obtain ⟨h3, h4⟩ := bothP_mk hb ha
  exact h1.ext h3 fun k => by rw [h2, h4]; omega
/-- the sorted keys with their values -/
theorem join_keys {a b : Pr} (ha : Mk a) (hb : Mk b) : ((isortI (keysP (joinP a b))).map fun k => (k, getP (joinP a b) k)) = bothP a b := by
  obtain ⟨h1, h2, h3⟩ := joinP_spec ha.nodup ha.v hb.nodup hb.v
  obtain ⟨h4, h5⟩ := isort_mk h1 h2
  have hk : isortI (keysP (joinP a b)) = keysP (bothP a b) := (isortI_uniq ((List.mergeSort_perm (joinP a b) pairLe).map _) (h4.s.imp fun h => by omega)).symm
  rw [hk]
  show _ = isort (joinP a b)
  conv => rhs; rw [pairs_of_keys h4.nodup]
  exact List.map_congr_left fun k _ => by rw [h5]
def holdsP (a b : Pr) : Bool := b.all fun z => decide (z.2 ≤ getP a z.1)
theorem holdsP_iff {a b : Pr} (ha : Mk a) (hb : Mk b) : holdsP a b = true ↔ ∀ k, getP b k ≤ getP a k := by
  unfold holdsP
  rw [List.all_eq_true]
  constructor
  · intro h k
    by_cases hk : k ∈ keysP b
    · exact of_decide_eq_true (h _ (mem_getP hk))
    · rw [getP_not hk]
      exact ha.ge k
  · intro h z hz
    obtain ⟨k, v⟩ := z
    have := h k
    rw [getP_mem hb.nodup hz] at this
    exact decide_eq_true this
def lackP (a b : Pr) : List (Int × Int × Int) := (b.filter fun z => decide (getP a z.1 < z.2)).map fun z => (z.1, getP a z.1 + 1, z.2)
theorem lackP_nil {a b : Pr} : (lackP a b).isEmpty = holdsP a b := by
  unfold lackP holdsP
  induction b with
  | nil => rfl
  | cons z b ih =>
    by_cases h : getP a z.1 < z.2
    · have h2 : ¬ z.2 ≤ getP a z.1 := by omega
      simp [h, h2]
    · have h2 : z.2 ≤ getP a z.1 := by omega
      simp only [List.filter_cons, h, decide_false, Bool.false_eq_true, if_false, List.all_cons, h2, decide_true, Bool.true_and]
      exact ih
/-- the lacks' last numbers -/
def lastP (l : List (Int × Int × Int)) : Pr := l.map fun z => (z.1, z.2.2)
theorem last_lack {a b : Pr} : lastP (lackP a b) = b.filter fun z => decide (getP a z.1 < z.2) := by
  unfold lastP lackP
  rw [List.map_map]
  exact List.map_id _
theorem last_mk {a b : Pr} (hb : Mk b) : Mk (lastP (lackP a b)) ∧ ∀ k, getP (lastP (lackP a b)) k = if getP a k < getP b k then getP b k else 0 := by
  rw [last_lack]
  have hsub : (b.filter fun z => decide (getP a z.1 < z.2)).Sublist b := List.filter_sublist
  have hm : Mk (b.filter fun z => decide (getP a z.1 < z.2)) := ⟨hb.s.sublist (hsub.map _), fun z hz => hb.v z (hsub.subset hz)⟩
  refine ⟨hm, fun k => ?_⟩
  split
  · rename_i h
    by_cases hk : k ∈ keysP b
    · exact getP_mem hm.nodup (List.mem_filter.mpr ⟨mem_getP hk, decide_eq_true h⟩)
    · rw [getP_not hk, getP_not]
      exact fun z => hk ((hsub.map _).subset z)
  · rename_i h
    refine getP_not fun z => h ?_
    obtain ⟨y, hy, e⟩ := List.mem_map.mp z
    obtain ⟨h1, h2⟩ := List.mem_filter.mp hy
    obtain ⟨j, v⟩ := y
    subst e
    rw [getP_mem hb.nodup h1]
    exact of_decide_eq_true h2
theorem with_lack {a b : Pr} (ha : Mk a) (hb : Mk b) : bothP a (lastP (lackP a b)) = bothP a b := by
  obtain ⟨h0, h0'⟩ := last_mk (a := a) hb
  obtain ⟨h1, h2⟩ := bothP_mk ha h0
  obtain ⟨h3, h4⟩ := bothP_mk ha hb
  refine h1.ext h3 fun k => ?_
  rw [h2, h4, h0']
  have := ha.ge k
  split <;> omega
theorem holds_both {a b : Pr} (ha : Mk a) (hb : Mk b) : holdsP (bothP a b) b = true := by
  obtain ⟨h1, h2⟩ := bothP_mk ha hb
  rw [holdsP_iff h1 hb]
  intro k
  rw [h2]
  omega
theorem holds_most {a b t : Pr} (ha : Mk a) (hb : Mk b) (ht : Mk t) : holdsP t (bothP a b) = (holdsP t a && holdsP t b) := by
  obtain ⟨h1, h2⟩ := bothP_mk ha hb
  rw [Bool.eq_iff_iff, Bool.and_eq_true, holdsP_iff ht h1, holdsP_iff ht ha, holdsP_iff ht hb]
  constructor
  · intro h
    exact ⟨fun k => by have := h k; rw [h2] at this; omega, fun k => by have := h k; rw [h2] at this; omega⟩
  · intro ⟨x, y⟩ k
    rw [h2]
    have := x k
    have := y k
    omega
end DL


/-! DLy: the hand made, some thing drawn; loops over lists that change nothing. -/
namespace DL
open PySem PySem.Spec L2
open PyProof.Rows hiding St
theorem wR_eq {α : Type} {r : R α} {a : α} {m : List C} (h : wR r fun x m' => x = a ∧ m' = m) : r = .ok a m := by
  obtain ⟨x, m', e, rfl, rfl⟩ := wR_ex h
  exact e
theorem Hand.set {n b : Nat} {m : List C} {c : C} (hn : n < m.length) (h : HandC b c) : Hand n b (m.set n c) := ⟨c, List.getElem?_set_self hn, h⟩
theorem Hand.lt {n b : Nat} {m : List C} (h : Hand n b m) : n < m.length := by
  obtain ⟨c, e, _⟩ := h
  exact (List.getElem?_eq_some_iff.mp e).1
theorem fits_small {n : Nat} (h : n ≤ 100000) : fits n = true := by
  unfold fits
  rw [decide_eq_true_eq]
  omega
def someS (G : FS) : SS := sRet (eBin ixD (eVar 1) (eCall 2 G (aCons (eVar 0) (aCons (eAr lenD (aCons (eVar 1) aNil)) aNil))))
/-- G draws from the hand -/
def Draws (G : FS) : Prop := ∀ {n b : Nat} {m : List C} {k : Int}, Hand n b m → b < 100000000 → 1 ≤ k → k < 4294967296 → ∀ (Q : D → List C → Prop), (∀ (j : Int) (c' : C), 0 ≤ j → j < k → HandC (b + 1) c' → Q (.int j) (m.set n c')) → wR (G [.cell n, .int k] m) Q
theorem draws_of {a1 b1 m1 a2 a3 m2 d1 e1 m3 d2 e2 m4 d3 : Int} (hK : drawK a1 b1 m1 a2 a3 m2 d1 e1 m3 d2 e2 m4 d3 = true) : Draws (fnD 5 (drawS a1 b1 m1 a2 a3 m2 d1 e1 m3 d2 e2 m4 d3)) := fun h hb hk hk2 Q hQ => draw_ok hK h hb hk hk2 Q hQ
/-- G gives one of the things -/
def Somes (G : FS) : Prop := ∀ {n b : Nat} {m : List C} {l : List D}, Hand n b m → b < 100000000 → l ≠ [] → l.length ≤ 100000 → ∀ (Q : D → List C → Prop), (∀ (x : D) (c' : C), x ∈ l → HandC (b + 1) c' → Q x (m.set n c')) → wR (G [.cell n, .lst l] m) Q
theorem some_ok {G : FS} (hG : Draws G) : Somes (fnD 2 (someS G)) := by
  intro n b m l h hb hl hl2 Q hQ
  have h1 : 1 ≤ l.length := by
    cases l with
    | nil => exact absurd rfl hl
    | cons => simp
  unfold someS
  simp only [wR_fn, startD, sRet, wS_go, eBin, eVar, eCall, eAr, aCons, aNil, wR_bind, wR_ok, List.map_cons, List.map_nil, List.cons_append, List.nil_append, List.getElem?_cons_zero, List.getElem?_cons_succ, lenD_lst, List.length_cons, List.length_nil, Nat.reduceAdd, if_true]
  refine hG (k := (l.length : Int)) h hb (by omega) (by omega) _ fun j c' h1 h2 h3 => ?_
  have hj : j.toNat < l.length := by omega
  have e : atI l j = some (l[j.toNat]) := atI_nat h1 (List.getElem?_eq_getElem hj)
  simp only [ixD_lst, e, wR_ok, wS_rt]
  exact hQ _ _ (List.getElem_mem hj) h3
def handS (u v : Int) : SS := sSeq (sSet 1 (eLc (iSeq (eSl (eVar 0) pNone (pSome (eC (.int 63))))) (gN 2) [2] bYes (eAr absD (aCons (eAr DL.intD (aCons (eVar 2) aNil)) aNil))))
    (sRet (eLstC (aCons (eVar 1) (aCons (eC (.int 0)) (aCons (eC (.int 0)) (aCons (eBin addD (eC (.int u)) (eBin mulD (eC (.int v)) (eAr lenD (aCons (eVar 1) aNil)))) (aCons (eC (.int 0)) aNil)))))))
theorem cut_map {l : List Int} {lo hi : Option Int} : cutD (l.map D.int) lo hi = ((l.drop (HT.sIx l.length 0 lo)).take (HT.sIx l.length l.length hi - HT.sIx l.length 0 lo)).map D.int := by
  unfold cutD
  rw [List.length_map, ← List.map_drop, ← List.map_take]
theorem cut63 {l : List Int} : (cutD (l.map D.int) none (some 63)).length ≤ 63 := by
  rw [cut_map, List.length_map, List.length_take]
  have : HT.sIx l.length l.length (some 63) ≤ 63 := by
    unfold HT.sIx
    simp
    omega
  omega
/-- the hand made of a script, whatever way the script stands -/
theorem hand_ok {u v : Int} {d : D} {m : List C} {ns : List Int} {Q : D → List C → Prop} (hu : small32 u = true) (hv : small32 v = true) (hu2 : u < 1000000) (hv2 : v < 1000000) (hd : slD m d none (some 63) = .ok (.lst (cutD (ns.map D.int) none (some 63))) m)
    (hQ : ∀ c', HandC 0 c' → Q (.cell m.length) (m ++ [c'])) : wR (fnD 3 (handS u v) [d] m) Q := by
  unfold small32 at hu hv
  simp only [Bool.and_eq_true, decide_eq_true_eq] at hu hv
  have h63 := cut63 (l := ns)
  rw [cut_map] at hd h63
  generalize ((ns.drop (HT.sIx ns.length 0 none)).take (HT.sIx ns.length ns.length (some 63) - HT.sIx ns.length 0 none)) = l at hd h63
  rw [List.length_map] at h63
  unfold handS
  rw [wR_fn]
  show wS ((sSet 1 _ _ _).seq _) _ _ _ _
  rw [wS_seq]
  show wS ((eLc _ _ _ _ _ _ _).go _ _) _ _ _ _
  rw [wS_go]
  unfold eLc
  rw [wR_bind]
  have e1 : iSeq (eSl (eVar 0) pNone (pSome (eC (.int 63)))) (startD 3 [d]) m = .ok (l.map D.int) m := by
    show ((slD m d none (some 63)).bind _) = _
    rw [hd]
    rfl
  rw [e1, wR_ok, wR_bind]
  have comp : wR (compD (gN 2) [2] bYes (eAr absD (aCons (eAr DL.intD (aCons (eVar 2) aNil)) aNil)) (startD 3 [d]) (l.map D.int) m) fun zs m' => zs = (l.map fun x => if x < 0 then -x else x).map D.int ∧ m' = m := by
    have := wR_comp (g := gN 2) (vs := [2]) (A := bYes) (F := eAr absD (aCons (eAr DL.intD (aCons (eVar 2) aNil)) aNil)) (ρ := startD 3 [d]) (Q := fun zs m' => zs = (l.map fun x => if x < 0 then -x else x).map D.int ∧ m' = m)
      (fun ys ds m' => ∃ l1 l2 : List Int, l = l1 ++ l2 ∧ ds = l2.map D.int ∧ ys = (l1.map fun x => if x < 0 then -x else x).map D.int ∧ m' = m) (fun ys m' ⟨l1, l2, h1, h2, h3, h4⟩ => by
        have : l2 = [] := by simpa using h2.symm
        subst this
        rw [List.append_nil] at h1
        subst h1
        exact ⟨h3, h4⟩) (fun ys x ds m' ⟨l1, l2, h1, h2, h3, h4⟩ => by
        cases l2 with
        | nil => cases h2
        | cons k l2 =>
          cases h2
          refine ⟨_, rfl, ?_⟩
          simp only [bYes, wR_ok, if_true, eAr, aCons, aNil, eVar, wR_bind, wipeD, startD, List.map_cons, List.map_nil, List.length_cons, List.length_nil, List.replicate, Nat.reduceSub, Nat.reduceAdd, List.cons_append, List.nil_append, List.set_cons_zero, List.set_cons_succ, List.getElem?_cons_zero, List.getElem?_cons_succ, intD_int, absD_int]
          refine ⟨l1 ++ [k], l2, by simp [h1], rfl, ?_, h4⟩
          rw [h3]
          simp) (l := l.map D.int) (ys := []) (m := m) ⟨[], l, rfl, rfl, rfl, rfl⟩
    exact wR_imp this fun zs m' h => by simpa using h
  refine wR_imp comp fun zs m' ⟨e2, e3⟩ => ?_
  subst e2 e3
  generalize hk : (l.map fun x => if x < 0 then -x else x) = ks
  have hkl : ks.length ≤ 63 := by rw [← hk, List.length_map]; exact h63
  have hk0 : ∀ x ∈ ks, 0 ≤ x := fun x hx => by
    rw [← hk] at hx
    obtain ⟨y, _, e⟩ := List.mem_map.mp hx
    split at e <;> omega
  unfold compEnd
  rw [if_pos (fits_small (by rw [List.length_map]; omega)), wR_ok, wS_nx]
  have hm : mulOk v ks.length = true := mulOk_small (by omega) (by omega) (by omega) (by omega)
  simp only [startD, List.map_cons, List.map_nil, List.length_cons, List.length_nil, List.replicate, Nat.reduceSub, Nat.reduceAdd, List.cons_append, List.nil_append, List.set_cons_zero, List.set_cons_succ, sRet, eLstC, wS_go, eBin, eAr, eVar, eC, aCons, aNil, wR_bind, wR_ok, List.getElem?_cons_zero, List.getElem?_cons_succ, lenD_lst, List.length_map, mulD_int, hm, if_true, addD_int, fits_small (show 5 ≤ 100000 by decide), wS_rt]
  refine hQ _ ⟨ks, 0, 0, _, 0, rfl, hkl, by omega, by omega, hk0, ?_, ?_, by omega, by omega⟩
  · have := Int.mul_nonneg (Int.le_of_lt hv.1) (Int.natCast_nonneg ks.length)
    omega
  · have : v * ks.length ≤ 1000000 * 63 := Int.mul_le_mul (by omega) (by omega) (by omega) (by omega)
    omega

/-! ### comprehensions that change nothing -/
theorem lc_filter {L : LS} {g : GS} {vs : List Nat} {A : BS} {F : ES} {ρ : Env} {m : List C} {l : List D} (p : D → Bool) (f : D → D) (hL : L ρ m = .ok l m)
    (h : ∀ d ∈ l, ∃ ρ1, g d (wipeD ρ vs) m = some ρ1 ∧ A ρ1 m = .ok (p d) m ∧ (p d = true → F ρ1 m = .ok (f d) m)) (hf : l.length ≤ 100000) : eLc L g vs A F ρ m = .ok (.lst ((l.filter p).map f)) m := by
  have key : ∀ l : List D, (∀ d ∈ l, ∃ ρ1, g d (wipeD ρ vs) m = some ρ1 ∧ A ρ1 m = .ok (p d) m ∧ (p d = true → F ρ1 m = .ok (f d) m)) → compD g vs A F ρ l m = .ok ((l.filter p).map f) m := by
    intro l
    induction l with
    | nil => intro _; rfl
    | cons d l ih =>
      intro h
      obtain ⟨ρ1, h1, h2, h3⟩ := h d List.mem_cons_self
      unfold compD
      rw [h1]
      show compK _ _ _ = _
      rw [h2]
      cases hp : p d with
      | false =>
        show compD g vs A F ρ l m = _
        rw [ih fun x hx => h x (List.mem_cons_of_mem _ hx), List.filter_cons_of_neg (by simp [hp])]
      | true =>
        show compE (F ρ1 m) _ = _
        rw [h3 hp]
        show ((compD g vs A F ρ l m).bind _) = _
        rw [ih fun x hx => h x (List.mem_cons_of_mem _ hx), List.filter_cons_of_pos hp]
        rfl
  unfold eLc
  rw [hL]
  show (compD g vs A F ρ l m).bind compEnd = _
  rw [key l h]
  show compEnd _ _ = _
  unfold compEnd
  rw [if_pos]
  refine fits_small ?_
  rw [List.length_map]
  exact Nat.le_trans (List.length_filter_le _ _) hf
theorem lc_pure {L : LS} {g : GS} {vs : List Nat} {F : ES} {ρ : Env} {m : List C} {l : List D} (f : D → D) (hL : L ρ m = .ok l m)
    (h : ∀ d ∈ l, ∃ ρ1, g d (wipeD ρ vs) m = some ρ1 ∧ F ρ1 m = .ok (f d) m) (hf : l.length ≤ 100000) : eLc L g vs bYes F ρ m = .ok (.lst (l.map f)) m := by
  have := lc_filter (A := bYes) (p := fun _ => true) f hL (fun d hd => let ⟨ρ1, h1, h2⟩ := h d hd; ⟨ρ1, h1, rfl, fun _ => h2⟩) hf
  rwa [List.filter_eq_self.mpr fun _ _ => rfl] at this
theorem bools_map {α : Type} {f : α → Bool} : ∀ {l : List α}, bools (l.map fun x => D.bl (f x)) = some (l.map f)
  | [] => rfl
  | x :: l => by
    show (bools (l.map fun x => D.bl (f x))).map _ = _
    rw [bools_map]
    rfl
theorem all_eq {α : Type} {f : α → Bool} {l : List α} {m : List C} : allD [.lst (l.map fun x => D.bl (f x))] m = .ok (.bl (l.all f)) m := by
  show (match (lstOf m (.lst (l.map fun x => D.bl (f x)))).bind bools with
    | some bs => R.ok (D.bl (bs.all id)) m
    | none => .no) = _
  have : (lstOf m (.lst (l.map fun x => D.bl (f x)))).bind bools = some (l.map f) := bools_map
  rw [this]
  show R.ok (D.bl ((l.map f).all id)) m = _
  rw [List.all_map]
  rfl
theorem cut_tail {l : List D} : cutD l (some 1) none = l.tail := by
  unfold cutD HT.sIx
  cases l with
  | nil => rfl
  | cons x l =>
    simp
end DL


/-! DLz: dicts of ints. -/
namespace DL
open PySem PySem.Spec L2
open PyProof.Rows hiding St pairD intD
def ksP (p : Pr) : List Key := p.map fun z => Sum.inl z.1
def vsP (p : Pr) : List D := p.map fun z => D.int z.2
theorem ksP_len {p : Pr} : (ksP p).length = p.length := List.length_map _
theorem hasK_P {p : Pr} {k : Int} : hasK (ksP p) (.inl k) = decide (k ∈ keysP p) := by
  induction p with
  | nil => rfl
  | cons z p ih =>
    show (decide ((Sum.inl z.1 : Key) = .inl k) || hasK (ksP p) (.inl k)) = _
    rw [ih]
    have e : (k ∈ keysP (z :: p)) ↔ z.1 = k ∨ k ∈ keysP p := by
      unfold keysP
      rw [List.map_cons, List.mem_cons]
      exact ⟨fun h => h.imp (fun e => e.symm) id, fun h => h.imp (fun e => e.symm) id⟩
    have e2 : ((Sum.inl z.1 : Key) = .inl k) ↔ z.1 = k := ⟨Sum.inl.inj, fun h => by rw [h]⟩
    rw [Bool.eq_iff_iff, Bool.or_eq_true, decide_eq_true_eq, decide_eq_true_eq, decide_eq_true_eq, e, e2]
theorem lookD_P {p : Pr} {k : Int} : lookD (ksP p) (vsP p) (.inl k) = if k ∈ keysP p then some (.int (getP p k)) else none := by
  induction p with
  | nil => rfl
  | cons z p ih =>
    obtain ⟨a, v⟩ := z
    show (if (Sum.inl a : Key) = .inl k then some (D.int v) else lookD (ksP p) (vsP p) (.inl k)) = _
    rw [getP_cons]
    by_cases e : a = k
    · subst e
      rw [if_pos rfl, if_pos rfl, if_pos (by simp [keysP])]
    · have e2 : ¬ (Sum.inl a : Key) = .inl k := fun z => e (Sum.inl.inj z)
      have e3 : (k ∈ keysP ((a, v) :: p)) ↔ k ∈ keysP p := by
        unfold keysP
        rw [List.map_cons, List.mem_cons]
        exact ⟨fun h => h.resolve_left fun z => e z.symm, .inr⟩
      rw [if_neg e2, if_neg e, ih]
      simp [e3]
theorem putVs_P {p : Pr} {k : Int} {d : D} : putVs (ksP p) (vsP p) (.inl k) d = p.map fun z => if z.1 = k then d else .int z.2 := by
  induction p with
  | nil => rfl
  | cons z p ih =>
    show (if (Sum.inl z.1 : Key) = .inl k then d else .int z.2) :: putVs (ksP p) (vsP p) (.inl k) d = _
    rw [ih, List.map_cons]
    by_cases e : z.1 = k
    · simp [e]
    · have e2 : ¬ (Sum.inl z.1 : Key) = .inl k := fun y => e (Sum.inl.inj y)
      rw [if_neg e2, if_neg e]
theorem putD_P {p : Pr} {k v : Int} : putD (ksP p) (vsP p) (.inl k) (.int v) = (ksP (putP p k v), vsP (putP p k v)) := by
  unfold putD putP
  rw [hasK_P]
  by_cases h : k ∈ keysP p
  · rw [if_pos (decide_eq_true h), if_pos h, putVs_P]
    unfold ksP vsP
    rw [List.map_map, List.map_map]
    refine Prod.ext ?_ ?_
    · refine List.map_congr_left fun z _ => ?_
      show (Sum.inl z.1 : Key) = .inl (if z.1 = k then (z.1, v) else z).1
      split <;> rfl
    · refine List.map_congr_left fun z _ => ?_
      show (if z.1 = k then D.int v else .int z.2) = .int (if z.1 = k then (z.1, v) else z).2
      split <;> rfl
  · rw [if_neg (by simp [h]), if_neg h]
    simp [ksP, vsP]
theorem merge_P : ∀ {p q : Pr}, (keysP (q ++ p)).Nodup → mergeD (ksP q) (vsP q) (ksP p) (vsP p) = (ksP (q ++ p), vsP (q ++ p))
  | [], q, _ => by
    rw [List.append_nil]
    show mergeD (ksP q) (vsP q) [] [] = _
    unfold mergeD
    rfl
  | z :: p, q, h => by
    obtain ⟨k, v⟩ := z
    show mergeD (putD (ksP q) (vsP q) (.inl k) (.int v)).1 (putD (ksP q) (vsP q) (.inl k) (.int v)).2 (ksP p) (vsP p) = _
    have hk : k ∉ keysP q := fun hk => by
      unfold keysP at h hk
      rw [List.map_append, List.nodup_append] at h
      exact h.2.2 k hk k (by simp) rfl
    have e : putP q k v = q ++ [(k, v)] := if_neg hk
    rw [putD_P, e]
    have := merge_P (p := p) (q := q ++ [(k, v)]) (by rw [List.append_assoc]; exact h)
    rw [this, List.append_assoc]
    rfl
theorem pairsD_P {p : Pr} : pairsD (p.map pairD) = some (ksP p, vsP p) := by
  induction p with
  | nil => rfl
  | cons z p ih =>
    show (match keyOf (.int z.1), pairsD (p.map pairD) with
      | some k, some (ks, vs) => some (k :: ks, D.int z.2 :: vs)
      | _, _ => none) = _
    rw [ih]
    rfl
theorem dictD_P {p : Pr} {m : List C} (h : (keysP p).Nodup) : dictD [.tup (p.map pairD)] m = .ok (.cell m.length) (m ++ [.dic (ksP p) (vsP p)]) := by
  show (match pairsD (p.map pairD) with
    | some (ks, vs) => R.ok (D.cell m.length) (m ++ [C.dic (mergeD [] [] ks vs).1 (mergeD [] [] ks vs).2])
    | none => .no) = _
  rw [pairsD_P]
  have e := merge_P (p := p) (q := []) h
  show R.ok _ (m ++ [C.dic (mergeD [] [] (ksP p) (vsP p)).1 (mergeD [] [] (ksP p) (vsP p)).2]) = _
  rw [show mergeD [] [] (ksP p) (vsP p) = (ksP p, vsP p) from e]
section
variable {m : List C} {ks : List Key} {vs : List D} {p : Pr}
theorem get_end {c : C} : (m ++ [c])[m.length]? = some c := by simp
theorem set_end {c c' : C} : (m ++ [c]).set m.length c' = m ++ [c'] := by simp
theorem dicOf_end : dicOf (m ++ [.dic ks vs]) (.cell m.length) = some (ks, vs) := by
  unfold dicOf
  simp only [get_end]
theorem frzR_end : frzR (.cell m.length) (m ++ [.dic ks vs]) = .ok (.dic ks vs) (m ++ [.dead]) := by
  unfold frzR
  simp only [get_end, set_end]
theorem frzR_endL {l : List D} : frzR (.cell m.length) (m ++ [.lst l]) = .ok (.lst l) (m ++ [.dead]) := by
  unfold frzR
  simp only [get_end, set_end]
theorem setD_end {k v : Int} (h : p.length ≤ 10000) : setD (.cell m.length) (.int k) (.int v) (m ++ [.dic (ksP p) (vsP p)]) = some (m ++ [.dic (ksP (putP p k v)) (vsP (putP p k v))]) := by
  unfold setD
  simp only [get_end, set_end, keyOf, putD_P]
  rw [if_pos (fits_small (by rw [ksP_len]; omega))]
theorem get2_P {Fo Fk Fx : ES} {ρ : Env} {o : D} {k : Int} (ho : Fo ρ m = .ok o m) (hd : dicOf m o = some (ksP p, vsP p)) (hk : Fk ρ m = .ok (.int k) m) (hx : Fx ρ m = .ok (.int 0) m) : eGet2 Fo Fk Fx ρ m = .ok (.int (getP p k)) m := by
  unfold eGet2
  rw [ho, R.bind_ok, hd]
  show ((Fk ρ m).bind _) = _
  rw [hk, R.bind_ok, hx, R.bind_ok, hd]
  show (match lookD (ksP p) (vsP p) (.inl k) with
    | some v => R.ok v m
    | none => R.ok (.int 0) m) = _
  rw [lookD_P]
  by_cases h : k ∈ keysP p
  · rw [if_pos h]
  · rw [if_neg h, getP_not h]
theorem intPairs_P : intPairs (ksP p) (vsP p) = some p := by
  induction p with
  | nil => rfl
  | cons z p ih =>
    show (intPairs (ksP p) (vsP p)).map _ = _
    rw [ih]
    rfl
theorem sortIt_P {Fo : ES} {ρ : Env} {o : D} (ho : Fo ρ m = .ok o m) (hd : dicOf m o = some (ksP p, vsP p)) : eSortIt Fo ρ m = .ok (.lst ((isort p).map pairD)) m := by
  unfold eSortIt
  rw [ho, R.bind_ok, hd]
  show (match intPairs (ksP p) (vsP p) with
    | some l => R.ok (D.lst ((isort l).map pairD)) m
    | none => .no) = _
  rw [intPairs_P]
theorem keyInts_P : keyInts (ksP p) = some (keysP p) := by
  induction p with
  | nil => rfl
  | cons z p ih =>
    show (keyInts (ksP p)).map _ = _
    rw [ih]
    rfl
theorem sortD_end (h : p.length < 64) : sortD [.cell m.length] (m ++ [.dic (ksP p) (vsP p)]) = .ok (.lst ((isortI (keysP p)).map D.int)) (m ++ [.dic (ksP p) (vsP p)]) := by
  unfold sortD lstOf
  simp only [get_end, dicOf_end, keyInts_P, Option.bind_none]
  rw [if_pos (by unfold keysP; rw [List.length_map]; exact h)]
theorem ixD_end {k : Int} (h : k ∈ keysP p) : ixD (.cell m.length) (.int k) (m ++ [.dic (ksP p) (vsP p)]) = .ok (.int (getP p k)) (m ++ [.dic (ksP p) (vsP p)]) := by
  have e : seqOf (m ++ [.dic (ksP p) (vsP p)]) (.cell m.length) = none := by
    unfold seqOf lstOf
    simp only [get_end]
  unfold ixD
  simp only [e, dicOf_end, keyOf, lookD_P, if_pos h]
theorem len_put {k v : Int} : (putP p k v).length ≤ p.length + 1 := by
  unfold putP
  split
  · rw [List.length_map]; omega
  · simp
theorem len_join : ∀ {b a : Pr}, (joinP a b).length ≤ a.length + b.length
  | [], a => Nat.le_refl _
  | (k, v) :: b, a => by
    have := len_join (b := b) (a := putP a k (max v (getP a k)))
    have h2 := len_put (p := a) (k := k) (v := max v (getP a k))
    show (joinP _ b).length ≤ _
    rw [List.length_cons]
    omega
end
end DL


/-! DLq: the end of a law. -/
namespace DL
open PySem PySem.Spec L2
open PyProof.Rows hiding St pairD intD cutD
theorem law_sp {K : PySem.W.Frag} {T : List (Addr × Str)} {G : FS} {a : Addr} {ns : List Int} {H : Hp} (hT : LamX.Tabs T H) (hS : SqL K H a (ns.map V.int))
    (hG : ∀ d m, slD m d none (some 63) = .ok (.lst (DL.cutD (ns.map D.int) none (some 63))) m → wR (G [d] m) fun x m' => x = .bl true) : spD K T 1 G [.ref a] H (fun v _ => v = .bl true) fun _ _ _ => False := by
  have fin : ∀ μ d m, RepL K μ H [d] [.ref a] → Sto T K μ H m → slD m d none (some 63) = .ok (.lst (DL.cutD (ns.map D.int) none (some 63))) m → spD K T 1 G [.ref a] H (fun v _ => v = .bl true) fun _ _ _ => False := fun μ d m r s e => by
    obtain ⟨x, m', h1, h2⟩ := wR_ex (hG d m e)
    refine ⟨rfl, μ, [d], m, r, s, ?_⟩
    rw [h1, h2]
    exact fun μ' H' v _ _ r => r
  have none : Sto T K [] H [] := ⟨rfl, List.nodup_nil, fun n c b e _ => by simp at e, hT⟩
  rcases hS with (e | ⟨o, e⟩) | h
  · refine fin [a] (.cell 0) [.lst (ns.map D.int)] ⟨_, _, rfl, ⟨a, rfl, rfl⟩, rfl⟩ ⟨rfl, by simp, fun n c b e1 e2 => ?_, hT⟩ rfl
    cases n with
    | zero =>
      cases e1
      cases e2
      exact ⟨_, e, ints_repL ns⟩
    | succ n => simp at e1
  · exact fin [] (.lst (ns.map D.int)) [] ⟨_, _, rfl, ⟨a, _, rfl, ⟨o, e⟩, ints_repL ns⟩, rfl⟩ none rfl
  · exact fin [] (.scr ns) [] ⟨_, _, rfl, ⟨a, rfl, h⟩, rfl⟩ none rfl
/-- a class by its name -/
def clM (mg : Str → Option Value) (x : Str) : Addr := match mg x with
  | some (.ref a) => a
  | _ => 0
theorem clM_of {mg : Str → Option Value} {x : Str} {a : Addr} (h : mg x = some (.ref a)) : clM mg x = a := by
  unfold clM
  rw [h]
theorem cls_at {mg : Str → Option Value} {x : Str} {a : Addr} (h : mg x = some (.ref a)) : ClsAt mg x (clM mg x) := by
  rw [clM_of h]
  exact h
theorem err_at {K : PySem.W.Frag} {mg : Str → Option Value} {x : Str} {c : Addr} (h : mg x = some (.ref c)) (e : PySem.W.excIn K c [.type "ValueError", .type "Exception", .type "BaseException", .type "object"] "ValueError.__new__" = true)
    (k : PySem.W.keepIn K (.ref c) = true) (b : PySem.W.subIn K (.ref c) (.type "BaseException") = some true) (t : PySem.W.typeIn K (.ref c) = some (.type "type")) : ErrAt K mg x (clM mg x) := by
  rw [clM_of h]
  exact ⟨h, e, k, b, t⟩
theorem tabs_one {H : Hp} {P : Addr} {q : Str} (h : H P = some (.tbl #[])) : LamX.Tabs [(P, q)] H := fun p hp => by
  rw [List.mem_singleton.mp hp]
  exact LamX.TabS.nil h
theorem CX_no {P : Program} {w : World} {H : Hp} {s : Shared} {e : Value} {s' : Shared} (h : L2.CX P w [] H s (fun _ _ _ => False) e s') : False := by
  obtain ⟨_, _, _, _, _, _, _, _, _, _, _, _, z⟩ := h
  exact z
end DL


/-! DLr: texts: comparisons, ord, join, upper, repeats, shifts. -/
namespace DL
open PySem PySem.Spec L2
open PyProof.Rows hiding St pairD intD cutD
section
variable {X : Cx} {T : List (Addr × Str)} {W : WX}
/-! ### comparisons of texts -/
def sLt (x y : Str) : Bool := decide (x.cps.toList < y.cps.toList)
def sLe (x y : Str) : Bool := !decide (y.cps.toList < x.cps.toList)
def sGt (x y : Str) : Bool := decide (y.cps.toList < x.cps.toList)
def sGe (x y : Str) : Bool := !decide (x.cps.toList < y.cps.toList)
def cmpSD (f : Str → Str → Bool) : D → D → List C → R D := fun a b m => match a, b with
  | .str x, .str y => .ok (.bl (f x y)) m
  | _, _ => .no
theorem cmpSD_ok {f : Str → Str → Bool} : OpD X T (cmpSD f) (fun x y H Q => ∃ i j, x = .str i ∧ y = .str j ∧ Q (.bl (f i j)) H) := by
  intro W σ μ H m d1 d2 x y Q S r1 r2 q
  unfold cmpSD at q
  split at q
  · cases r1; cases r2
    exact ⟨_, _, rfl, rfl, post_here (a := D.bl _) S rfl q⟩
  · exact q.elim
/-! ### ord -/
def ordD : FS := fun ds m => match ds with
  | [.str x] => if x.length = 1 then .ok (.int (x.cps.getD 0 0 : Nat)) m else .no
  | _ => .no
theorem ordD_ok : ArD X T ordD (fun xs H Q => ∃ x, xs = [.str x] ∧ x.length = 1 ∧ Q (.int (x.cps.getD 0 0 : Nat)) H) := by
  intro W σ μ H m ds xs Q S r q
  unfold ordD at q
  split at q
  · obtain ⟨v, rfl, r1⟩ := repL1 r
    cases r1
    split at q
    · rename_i h
      exact ⟨_, rfl, h, post_here (a := D.int _) S rfl q⟩
    · exact q.elim
  · exact q.elim
/-! ### sep.join(texts) -/
def strsD : List D → Option (List Str)
  | [] => some []
  | .str x :: l => (strsD l).map (x :: ·)
  | _ => none
theorem strsD_rep {K : PySem.W.Frag} {μ : List Addr} {H : Hp} : ∀ {l : List D} {ys : List Str} {xs : List V}, RepL K μ H l xs → strsD l = some ys → xs = ys.map V.str
  | [], _, _, r, e => by cases e; cases r; rfl
  | d :: l, ys, _, r, e => by
    cases d with
    | str k =>
      obtain ⟨x, xs, rfl, r1, r2⟩ := r
      cases r1
      unfold strsD at e
      cases h : strsD l with
      | none => rw [h] at e; cases e
      | some l' => rw [h] at e; cases e; rw [strsD_rep r2 h]; rfl
    | _ => simp [strsD] at e
def joinOk (a : Str) (ys : List Str) : Bool := decide ((ys.map (·.length)).sum + ys.length * a.length ≤ 16777216)
def joinD : D → List D → List C → R D := fun d ds m => match d, ds with
  | .str a, [e] => (match (seqOf m e).bind strsD with
    | some ys => if joinOk a ys then .ok (.str (Txt.join a ys)) m else .no
    | none => .no)
  | _, _ => .no
theorem joinD_ok : MtD X T joinD (fun x xs H Q => ∃ a p, ∃ ys : List Str, x = .str a ∧ xs = [.ref p] ∧ (SqL X.K H p (ys.map V.str) ∨ SqT X.K H p (ys.map V.str)) ∧
    (ys.map (·.length)).sum + ys.length * a.length ≤ 16777216 ∧ Q (.str (Txt.join a ys)) H) := by
  intro W σ μ H m d ds x xs Q S r rs q
  unfold joinD at q
  split at q
  · rename_i a e
    cases r
    obtain ⟨v, rfl, r1⟩ := repL1 rs
    split at q
    · rename_i ys hy
      obtain ⟨l, hl, hs⟩ := Option.bind_eq_some_iff.mp hy
      obtain ⟨p, zs, rfl, hq, rl⟩ := seqOf_rep S r1 hl
      have ez := strsD_rep rl hs
      subst ez
      split at q
      · rename_i hj
        exact ⟨a, p, ys, rfl, rfl, hq, of_decide_eq_true hj, post_here (a := D.str _) S rfl q⟩
      · exact q.elim
    · exact q.elim
  · exact q.elim
/-! ### x.upper() -/
def upperD : D → List D → List C → R D := fun d ds m => match d, ds with
  | .str a, [] => if a.length ≤ 5592405 then .ok (.str (Txt.upper a)) m else .no
  | _, _ => .no
theorem upperD_ok : MtD X T upperD (fun x xs H Q => ∃ a, x = .str a ∧ xs = [] ∧ a.length ≤ 5592405 ∧ Q (.str (Txt.upper a)) H) := by
  intro W σ μ H m d ds x xs Q S r rs q
  unfold upperD at q
  split at q
  · cases r
    cases rs
    split at q
    · rename_i h
      exact ⟨_, rfl, rfl, h, post_here (a := D.str _) S rfl q⟩
    · exact q.elim
  · exact q.elim
/-! ### i << j -/
def shlD : D → D → List C → R D := fun a b m => match a, b with
  | .int i, .int j => if powOk i j then .ok (.int (i * 2 ^ j.toNat)) m else .no
  | _, _ => .no
theorem shlD_ok : OpD X T shlD (rI CPow fun i j => .int (i * 2 ^ j.toNat)) := by
  intro W σ μ H m d1 d2 x y Q S r1 r2 q
  unfold shlD at q
  split at q
  · cases r1; cases r2
    split at q
    · rename_i h
      unfold powOk at h
      simp only [Bool.and_eq_true, decide_eq_true_eq] at h
      exact ⟨_, _, rfl, rfl, ⟨h.1.1, h.1.2, h.2⟩, post_here (a := D.int _) S rfl q⟩
    · exact q.elim
  · exact q.elim
/-! ### x * k -/
def repS (x : Str) (k : Nat) : Str := ⟨(List.replicate k x.cps).foldl (· ++ ·) #[]⟩
def rMulS : R2 := fun x y H Q => ∃ (a : Str) (k : Int), x = .str a ∧ y = .int k ∧ 0 ≤ k ∧ k ≤ 100000 ∧ a.length ≤ 100 ∧ Q (.str (repS a k.toNat)) H
theorem foldl_one {α : Type} (x : Array α) : (List.replicate 1 x).foldl (· ++ ·) #[] = x := by simp [List.replicate]
theorem foldl_size {α : Type} {x : Array α} : ∀ (n : Nat) (acc : Array α), ((List.replicate n x).foldl (· ++ ·) acc).size = acc.size + n * x.size
  | 0, acc => by simp
  | n + 1, acc => by
    rw [List.replicate_succ, List.foldl_cons, foldl_size n, Array.size_append, Nat.succ_mul]
    omega
theorem repS_len {a : Str} (n : Nat) : (repS a n).length = n * a.length := by
  show ((List.replicate n a.cps).foldl (· ++ ·) #[]).size = _
  rw [foldl_size]
  simp [Str.length]
theorem op_mulS : OpR X (binaryOp .Mult) rMulS := by
  intro pins s σ H x y v u Q I rx ry h
  obtain ⟨a, k, rfl, rfl, h0, h1, h2, q⟩ := h
  obtain ⟨t, rfl⟩ := rx
  obtain ⟨t2, rfl⟩ := ry
  have hm : a.length * k.toNat ≤ 100 * 100000 := Nat.mul_le_mul h2 (by omega)
  refine PySem.P.mul_str ?_ (fun _ _ => ?_) (fun _ _ => PyProof.Rows.short24 (by omega)) ?_
  · have e1 : ¬ k < -(2 ^ 63 : Int) := by omega
    have e2 : ¬ k ≥ 2 ^ 63 := by omega
    rw [decide_eq_false e1, decide_eq_false e2]; rfl
  · have hk : 0 < k := by omega
    have h3 : (a.length : Int) ≤ (2 ^ 63 - 1) / k := (Int.le_ediv_iff_mul_le hk).mpr (by
      have : (a.length : Int) * k ≤ 100 * 100000 := Int.mul_le_mul (by omega) h1 h0 (by omega)
      omega)
    omega
  · have fin : ∀ z : Str, z.length ≤ 16777216 → Q (.str z) H → (Made.str z).post (EP X pins σ Q) s := fun z hz h => ⟨(by rw [sizeLine_eq]; exact hz), .str z, H, I.tok _, ⟨_, rfl⟩, h⟩
    by_cases k0 : k < 1
    · rw [if_pos k0]
      have : k.toNat = 0 := by omega
      rw [this] at q
      exact fin Str.empty (by decide) q
    · rw [if_neg k0]
      have hlen : ∀ n : Nat, (repS a n).length = n * a.length := repS_len
      by_cases k1 : (k == 1 || a.length == 0) = true
      · rw [if_pos k1]
        have e : repS a k.toNat = a := by
          rw [Bool.or_eq_true, beq_iff_eq, beq_iff_eq] at k1
          rcases k1 with rfl | e
          · show (⟨(List.replicate 1 a.cps).foldl (· ++ ·) #[]⟩ : Str) = a
            rw [foldl_one]
          · have e1 : (repS a k.toNat).length = 0 := by rw [hlen, e, Nat.mul_zero]
            have z : ∀ y : Str, y.length = 0 → y = Str.empty := fun y hy => by
              obtain ⟨cps⟩ := y
              have : cps = #[] := Array.eq_empty_of_size_eq_zero hy
              rw [this]
              rfl
            rw [z _ e1, z a e]
        rw [e] at q
        exact ⟨.str a, H, I.tok _, ⟨_, rfl⟩, q⟩
      · rw [if_neg k1]
        exact fin _ (by rw [show (⟨List.foldl (fun x1 x2 => x1 ++ x2) #[] (List.replicate k.toNat a.cps)⟩ : Str) = repS a k.toNat from rfl, hlen, Nat.mul_comm]; omega) q
end
end DL


/-! DLs: list.count, list.index, tuples repeated, x.replace. -/
namespace DL
open PySem PySem.Spec L2
open PyProof.Rows hiding St pairD intD cutD
section
variable {X : Cx} {T : List (Addr × Str)} {W : WX}
/-! ### l.count(x) -/
def rCountD (K : PySem.W.Frag) : V → List V → Hp → VK → Prop := fun x xs H Q => ∃ (a : Addr) (y : V) (d : PyData) (ds : List PyData), x = V.ref a ∧ xs = [y] ∧ Dp K H (V.ref a) (.list ds) ∧ Dp K H y d ∧
  SeqAt.shaped (.list ds) = true ∧ SeqAt.shaped d = true ∧ Q (.int (ds.countP fun z => PyData.eqv z d : Nat)) H
theorem mt_countD (hu : X.A.units + 65 < cLine) : MtR X "list.count" (rCountD X.K) := by
  intro pins s σ H x xs v us Q I rx rxs h
  obtain ⟨a, y, d, ds, rfl, rfl, hl, hy, sl, sd, q⟩ := h
  cases rx
  cases rxs with
  | cons ry rt =>
    rename_i uy ut
    cases rt
    obtain ⟨bs, r1⟩ := Dp.reads I d y uy hy ry
    have hxs : PyData.canLayAll0 ds = true := SeqAt.canLay_of_shaped sl
    have hroom : X.A.units + 1 + min (PyData.depthAll ds) d.depth < cLine := room_in_shaped sd hu
    cases hl with
    | lst hs ha =>
      obtain ⟨its, rv, ⟨⟨cls, dd, data, sls⟩, n, ho, hc, hdn, hdt⟩, hlen⟩ := I.list hs
      simp only at hc hdt
      subst hc hdt
      obtain ⟨as, h4⟩ := Dp.readsAll I ds _ its ha rv
      have hmap : its.map (SeqAt.readOf s.heap) = ds := SeqAt.readsAll_map ds its as hxs h4
      refine call_meets PySem.F.slot_list_count ⟨_, ho, rfl⟩ PySem.F.entry_list_count (PySem.F.args_list_count_2 _ _)
        (SeqAt.list_countAt a its.toArray n dd sls uy (fun u => PyData.eqv (SeqAt.readOf s.heap u) d)) ⟨ho, SeqAt.items_eqAt (vs := its.toArray) (show ReadsAll s.heap its.toArray.toList ds as from h4) r1 hxs (SeqAt.canLay_of_shaped sd) hroom, ?_⟩
      have e : (its.toArray.toList.countP fun u => PyData.eqv (SeqAt.readOf s.heap u) d) = ds.countP fun z => PyData.eqv z d := by
        rw [← hmap, List.countP_map]
        rfl
      refine ⟨.int (ds.countP fun z => PyData.eqv z d : Nat), H, I.tok _, ⟨s.toks, ?_⟩, q⟩
      show Value.int ((its.toArray.toList.countP fun u => PyData.eqv (SeqAt.readOf s.heap u) d : Nat) : Int) s.toks = _
      rw [e]
def countD : D → List D → List C → R D := fun d ds m => match ds with
  | [x] => (match DL.dataOf m d, x.data with
    | some (.list xs), some y => if SeqAt.shaped (.list xs) && SeqAt.shaped y then .ok (.int (xs.countP fun z => PyData.eqv z y : Nat)) m else .no
    | _, _ => .no)
  | _ => .no
theorem dp_list_ref {K : PySem.W.Frag} {H : Hp} {v : V} {xs : List PyData} (h : Dp K H v (.list xs)) : ∃ a, v = .ref a := by
  cases h with
  | lst hs ha => exact ⟨_, rfl⟩
theorem countD_ok : MtD X T countD (rCountD X.K) := by
  intro W σ μ H m d ds x xs Q S r rs q
  unfold countD at q
  split at q
  · obtain ⟨v, rfl, r1⟩ := repL1 rs
    split at q
    · rename_i zs y h1 h2
      split at q
      · rename_i hs
        rw [Bool.and_eq_true] at hs
        have dl := dataOf_dp S r h1
        obtain ⟨a, rfl⟩ := dp_list_ref dl
        exact ⟨a, v, y, zs, rfl, rfl, dl, data_dp _ r1 h2, hs.1, hs.2, post_here (a := D.int _) S rfl q⟩
      · exact q.elim
    · exact q.elim
  · exact q.elim
/-! ### l.index(x) -/
def indexP (y : PyData) : List PyData → Nat → Option Nat
  | [], _ => none
  | z :: l, n => if PyData.eqv z y then some n else indexP y l (n + 1)
theorem indexP_spec {y : PyData} : ∀ {l : List PyData} {n j : Nat}, indexP y l n = some j → ∃ i z, j = n + i ∧ l[i]? = some z ∧ PyData.eqv z y = true ∧ ∀ (k : Nat) (z' : PyData), k < i → l[k]? = some z' → PyData.eqv z' y = false
  | [], _, _, h => by cases h
  | z :: l, n, j, h => by
    unfold indexP at h
    split at h
    · rename_i e
      cases h
      exact ⟨0, z, rfl, rfl, e, fun k _ hk => absurd hk (Nat.not_lt_zero k)⟩
    · rename_i e
      obtain ⟨i, z1, h1, h2, h3, h4⟩ := indexP_spec h
      refine ⟨i + 1, z1, by omega, by simpa using h2, h3, fun k z' hk hz => ?_⟩
      cases k with
      | zero =>
        simp at hz
        subst hz
        simpa using e
      | succ k => exact h4 k z' (by omega) (by simpa using hz)
def indexD : D → List D → List C → R D := fun d ds m => match ds with
  | [x] => (match DL.dataOf m d, x.data with
    | some (.list xs), some y => if SeqAt.shaped (.list xs) && SeqAt.shaped y then (match indexP y xs 0 with
      | some j => .ok (.int (j : Nat)) m
      | none => .no) else .no
    | _, _ => .no)
  | _ => .no
theorem indexD_ok : MtD X T indexD (rIndexD X.K) := by
  intro W σ μ H m d ds x xs Q S r rs q
  unfold indexD at q
  split at q
  · obtain ⟨v, rfl, r1⟩ := repL1 rs
    split at q
    · rename_i zs y h1 h2
      split at q
      · rename_i hs
        rw [Bool.and_eq_true] at hs
        split at q
        · rename_i j hj
          have dl := dataOf_dp S r h1
          obtain ⟨a, rfl⟩ := dp_list_ref dl
          obtain ⟨i, z, e, g1, g2, g3⟩ := indexP_spec hj
          rw [Nat.zero_add] at e
          subst e
          exact ⟨a, v, y, zs, j, z, rfl, rfl, dl, data_dp _ r1 h2, hs.1, hs.2, g1, g2, g3, post_here (a := D.int _) S rfl q⟩
        · exact q.elim
      · exact q.elim
    · exact q.elim
  · exact q.elim
/-! ### t * k -/
def rRepTF (K : PySem.W.Frag) : R2 := fun x y H Q => ∃ l k xs, x = .ref l ∧ y = .int k ∧ SqT K H l xs ∧ xs ≠ [] ∧ 2 ≤ k ∧ k ≤ 1000 ∧ xs.length ≤ 1000 ∧ ∀ p o, o.dict = none → H p = none → Q (.ref p) (upd H p (.frz o (.tup (List.replicate k.toNat xs).flatten)))
theorem vals_flat {xs : List V} {its : List Value} (r : Vals xs its) : ∀ n : Nat, Vals (List.replicate n xs).flatten (List.replicate n its).flatten
  | 0 => .nil
  | n + 1 => by
    rw [List.replicate_succ, List.replicate_succ, List.flatten_cons, List.flatten_cons]
    exact r.append (vals_flat r n)
theorem op_repTF : OpR X (binaryOp .Mult) (rRepTF X.K) := by
  intro pins s σ H x y v u Q I rx ry h
  obtain ⟨l, k, xs, rfl, rfl, hT, hne, h1, h2, hz, q⟩ := h
  cases rx
  obtain ⟨t, rfl⟩ := ry
  obtain ⟨its, r, ⟨⟨cls, dd, data, sl⟩, ho, hc, n, hd⟩, hs⟩ := I.tuple hT
  simp only at hc hd
  subst hc hd
  have hle : its.length = xs.length := r.length.symm
  have hpos : 1 ≤ its.length := by
    cases xs with
    | nil => exact absurd rfl hne
    | cons a b => rw [hle, List.length_cons]; omega
  have hi : its.toArray.isEmpty = false := by
    cases its with
    | nil => simp at hpos
    | cons a b => rfl
  have flen : (List.replicate k.toNat its).flatten.length ≤ 1000 * 1000 := by
    rw [PyProof.Rows.lm_len_rep_flat, hle]
    exact Nat.mul_le_mul (by omega) hz
  have hm : ((its.toArray.size : Nat) : Int) * k ≤ 1000 * 1000 := by
    rw [List.size_toArray]
    exact Int.mul_le_mul (by omega) h2 (by omega) (by omega)
  refine wpAny_binaryOp_repeat_ref (T := "tuple") (U := "int") (by decide) ⟨_, ho, rfl⟩ (fun s' => typeIs_int s' k t) noFill_tuple_mul F.fills_int_mul F.slot_int_rmul repeat_tuple F.slot_int_index.lookup
    (call_meets F.slot_int_rmul (typeIs_int s k t) F.entry_int_rmul (F.args_int_rmul_2 _ _) (int_rmul_tuple k t l its.toArray n dd sl)
      ⟨ho, rfl, ⟨_, ho, rfl⟩, call_meets F.slot_tuple_mul ⟨_, ho, rfl⟩ F.entry_tuple_mul (F.args_tuple_mul_2 _ _)
        (tuple_mulW l its.toArray n dd sl k t (by rw [decide_eq_false (by omega), decide_eq_false (by omega)] <;> rfl) (by rw [hi, Bool.false_or]; exact beq_eq_false_iff_ne.mpr (by omega)) (by rw [hi, Bool.or_false]; exact decide_eq_false (by omega)) (by omega)
          (by unfold Builtin.Tuple.tupleTooMany; rw [sizeLine_eq]; exact decide_eq_false (by omega)) (by rw [size_rep, List.size_toArray, sizeLine_eq]; omega)) ⟨ho, ?_⟩⟩)
  rw [size_rep]
  exact ⟨.ref s.heap.objs.size, _, I.laidT (tk := s.toks) (by rw [(vals_flat r k.toNat).length, sizeLine_eq]; omega) (vals_flat r k.toNat), rfl, q _ _ rfl (I.hok.fresh (Nat.le_refl _))⟩
/-- t * k, a text or a tuple or two ints -/
def mulAD : D → D → List C → R D := fun a b m => match a, b with
  | .int i, .int j => if mulOk i j then .ok (.int (i * j)) m else .no
  | .str x, .int k => if 0 ≤ k ∧ k ≤ 100000 ∧ x.length ≤ 100 then .ok (.str (repS x k.toNat)) m else .no
  | .tup l, .int k => if l ≠ [] ∧ 2 ≤ k ∧ k ≤ 1000 ∧ l.length ≤ 1000 then .ok (.tup (List.replicate k.toNat l).flatten) m else .no
  | _, _ => .no
def rMulA (K : PySem.W.Frag) : R2 := fun x y H Q => rI CMulW (fun i j => .int (i * j)) x y H Q ∨ rMulS x y H Q ∨ rRepTF K x y H Q
theorem op_mulA : OpR X (binaryOp .Mult) (rMulA X.K) := op_mulW.or (op_mulS.or op_repTF)
theorem mulAD_ok : OpD X T mulAD (rMulA X.K) := by
  intro W σ μ H m d1 d2 x y Q S r1 r2 q
  unfold mulAD at q
  split at q
  · rename_i i j
    exact .inl (mulD_ok W σ μ H m (.int i) (.int j) x y Q S r1 r2 q)
  · cases r1; cases r2
    split at q
    · rename_i h
      exact .inr (.inl ⟨_, _, rfl, rfl, h.1, h.2.1, h.2.2, post_here (a := D.str _) S rfl q⟩)
    · exact q.elim
  · cases r2
    obtain ⟨a, xs, rfl, s1, q1⟩ := r1
    split at q
    · rename_i l k h
      refine .inr (.inr ⟨a, _, xs, rfl, rfl, s1.sqt, ?_, h.2.1, h.2.2.1, by rw [← q1.length]; exact h.2.2.2, post_newT S (q1.flat _) q⟩)
      intro e
      subst e
      cases l with
      | nil => exact h.1 rfl
      | cons => obtain ⟨_, _, z, _⟩ := q1; cases z
    · exact q.elim
  · exact q.elim
end
end DL


/-! DLt: x.replace(y, z) of written texts, behind a written text. -/
namespace DL
open PySem PySem.Spec L2
open PyProof.Rows hiding St pairD intD cutD
section
variable {X : Cx} {T : List (Addr × Str)} {W : WX}
/-- an expression that wants a token to be out -/
structure DET (X : Cx) (T : List (Addr × Str)) (W : WX) (e : Expr) (F : ES) : Prop where
  run : PET X e (tG (Rep X.K) T X.K W F)
theorem pet_weak {e : Expr} {t t' : TE} (h : PET X e t) (k : ∀ σ H Q, t' σ H Q → t σ H Q) : PET X e t' := fun pins s σ H Q h0 I q => h pins s σ H Q h0 I (k σ H Q q)
theorem det_of {e : Expr} {F : ES} (h : DE X T W e F) : DET X T W e F := ⟨CwR.PET.of h.run⟩
def replOk (x z : Str) : Bool := decide (x.length + (x.length + 1) * z.length ≤ 16777216)
def eRepl (y z : Str) (F : ES) : ES := fun ρ m => (F ρ m).bind fun d m1 => match d with
  | .str x => if replOk x z then .ok (.str (Txt.replace x y z)) m1 else .no
  | _ => .no
theorem det_repl {o : Expr} {F : ES} {y z : Str} {j k : Nat} {c0 c1 apos pos : Pos} (ho : DET X T W o F) (hyz : (y == z) = false := by decide)
    (hst : starEach [.Constant (.str y) j c0, .Constant (.str z) k c1] X.env = [(false, eval (.Constant (.str y) j c0) X.env), (false, eval (.Constant (.str z) k c1) X.env)] := by rfl)
    (hbase : attributeBase o "replace" X.env (eval o X.env) = eval o X.env := by rfl) (hline : (apos.endLine == pos.line) = true := by rfl) :
    DET X T W (.Call (.Attribute o "replace" apos) [.Constant (.str y) j c0, .Constant (.str z) k c1] [] pos) (eRepl y z F) :=
  ⟨pet_weak (CwR.pet_replT ho.run hyz hst hbase hline) fun σ H Q ⟨μ, ρ, m, er, s, q⟩ => tG_mk er s (q.bind fun d m1 μ1 H1 v x1 s1 r1 q1 => by
    split at q1
    · cases r1
      split at q1
      · rename_i x h
        exact ⟨_, rfl, of_decide_eq_true h, post_here (a := D.str _) s1 rfl q1⟩
      · exact q1.elim
    · exact q1.elim)⟩
theorem pe_op_strT {op : Operator} {r : R2} {c : Str} {j : Nat} {p1 pos : Pos} {f : Expr} {tf : TE} (ho : OpR X (binaryOp op) r) (hb : PET X f tf) : PE X (.BinOp (.Constant (.str c) j p1) op f pos) (tOp r (tC (.str c)) tf) := by
  refine ⟨fun pins s σ H Q I h => ?_⟩
  refine wpAny_BinOp (Calls.Constant_str ?_)
  exact thn (hb pins { s with toks := s.toks + 1 } σ H _ (by show 1 ≤ s.toks + 1; omega) (I.tok _) h) fun u s2 ⟨y, H2, I2, r2, q2⟩ => ho pins s2 σ H2 (.str c) y (.str c s.toks) u Q I2 ⟨_, rfl⟩ r2 q2
theorem de_binRT {op : Operator} {r : R2} {f : D → D → List C → R D} {c : Str} {j : Nat} {p1 pos : Pos} {b : Expr} {Fb : ES} (ho : OpR X (binaryOp op) r) (hf : OpD X T f r) (hb : DET X T W b Fb) :
    DE X T W (.BinOp (.Constant (.str c) j p1) op b pos) (eBin f (eC (.str c)) Fb) :=
  ⟨(pe_op_strT ho hb.run).weak fun σ H Q ⟨μ, ρ, m, e, s, q⟩ => tG_mk e s ((show Post (Rep X.K) T X.K W σ μ H ((Fb ρ m).bind fun y m2 => f (.str c) y m2) Q from q).bind fun d2 m2 μ2 H2 y x2 s2 r2 q2 => hf W σ μ2 H2 m2 (.str c) d2 (.str c) y Q s2 rfl r2 q2)⟩
/-! ### a, b, c = e1, e2, e3 -/
def sPar3 (i j l : Nat) (G : LS) : SS := fun ρ m => (G ρ m).go ρ fun ds m1 => match ds with
  | [d, e, f] => .nx (((ρ.set i (some d)).set j (some e)).set l (some f)) m1
  | _ => .no
theorem repL3 {K : PySem.W.Frag} {μ : List Addr} {H : Hp} {d e f : D} {vs : List V} (h : RepL K μ H [d, e, f] vs) : ∃ v u w, vs = [v, u, w] ∧ Rep K μ H d v ∧ Rep K μ H e u ∧ Rep K μ H f w := by
  obtain ⟨x, xs, rfl, r, h⟩ := h
  obtain ⟨y, z, rfl, r2, r3⟩ := repL2 h
  exact ⟨x, y, z, rfl, r, r2, r3⟩
theorem ds_par3 {pos : Pos} {i j l : Nat} {x y z : Str} {a b c : Expr} {G : LS} {px py pz pt : Pos} {kt k2 : _} {pt2 : Pos} (hc : X.calm = true) (hN : X.N.Nodup) (hi : X.N[i]? = some x) (hj : X.N[j]? = some y) (hl : X.N[l]? = some z) (hij : i ≠ j) (hil : i ≠ l) (hjl : j ≠ l)
    (hx : X.env.scope.names.lookup x = some .local) (hy : X.env.scope.names.lookup y = some .local) (hz : X.env.scope.names.lookup z = some .local)
    (ha : DA X T W [a, b, c] G) (hs : swappedStores [.Tuple [.Name x px, .Name y py, .Name z pz] kt pt] (.Tuple [a, b, c] k2 pt2) X.env = pure (some [x, y, z])) : DS X T W (.Assign [.Tuple [.Name x px, .Name y py, .Name z pz] kt pt] (.Tuple [a, b, c] k2 pt2) pos) (sPar3 i j l G) :=
  ⟨(ps_par3 hc hN hi hj hl hij hil hjl hx hy hz ha.run hs).weak fun Z σ H ⟨μ, ρ, m, er, s, q⟩ => tG_mk er s (q.go er fun ds m1 μ1 H1 vs x1 s1 r1 q1 => by
    split at q1
    · obtain ⟨v, u, w, rfl, r, r', r''⟩ := repL3 r1
      exact ⟨v, u, w, rfl, q1.nx_here s1 ((((er.ext x1).set r).set r').set r'')⟩
    · exact q1.elim)⟩
end
end DL


/-! DLp: signs of texts, kinds of things, what can be asked of anything okv. -/
namespace DL
open PySem PySem.Spec L2
open PyProof.Rows hiding St pairD intD cutD
/-! ### signs -/
abbrev one (c : Nat) : Str := ⟨#[c]⟩
theorem lt_one {a b : Nat} : (([a] : List Nat) < [b]) = (a < b) := by
  rw [List.cons_lt_cons_iff]
  simp
theorem sLe_one {a b : Nat} : sLe (one a) (one b) = decide (a ≤ b) := by
  show (!decide (([b] : List Nat) < [a])) = _
  rw [decide_eq_decide.mpr (iff_of_eq (lt_one (a := b) (b := a)))]
  by_cases h : a ≤ b
  · rw [decide_eq_true h, decide_eq_false (by omega)]; rfl
  · rw [decide_eq_false h, decide_eq_true (by omega)]; rfl
theorem strOk_one {c : Nat} : PyData.strOk (one c) = decide (c < 1114112) := by
  show (#[c]).all _ = _
  simp
theorem one_inj {a b : Nat} : (one a = one b) = (a = b) := by
  apply propext
  constructor
  · intro h
    have := congrArg Str.cps h
    simpa using this
  · intro h; rw [h]
theorem eq_one {a b : Nat} {m : List C} (ha : a < 1114112) (hb : b < 1114112) : eqD (.str (one a)) (.str (one b)) m = .ok (.bl (decide (a = b))) m := by
  rw [eqD_str (by rw [strOk_one]; exact decide_eq_true ha) (by rw [strOk_one]; exact decide_eq_true hb)]
  congr 2
  exact decide_eq_decide.mpr (iff_of_eq one_inj)
theorem cmpS_le {x y : Str} {m : List C} : cmpSD sLe (.str x) (.str y) m = .ok (.bl (sLe x y)) m := rfl
def codeOf : D → Nat
  | .str x => x.cps.getD 0 0
  | _ => 0
theorem strOk_mem {x : Str} {c : Nat} (h : PyData.strOk x = true) (hc : c ∈ x.cps.toList) : c < 1114112 := by
  unfold PyData.strOk at h
  rw [← Array.all_toList] at h
  exact of_decide_eq_true (List.all_eq_true.mp h c hc)
theorem strOk_of {x : Str} (h : ∀ c ∈ x.cps.toList, c < 1114112) : PyData.strOk x = true := by
  unfold PyData.strOk
  rw [← Array.all_toList]
  exact List.all_eq_true.mpr fun c hc => decide_eq_true (h c hc)
theorem len_toList {x : Str} : x.cps.toList.length = x.length := by simp [Str.length]
/-- a comprehension over the signs of a text, a flag for each -/
theorem lc_signs {L : LS} {i : Nat} {F : ES} {ρ : Env} {m : List C} {x : Str} (p : Nat → Bool) (hL : L ρ m = .ok (charsD x) m) (h : ∀ c ∈ x.cps.toList, F ((wipeD ρ [i]).set i (some (.str (one c)))) m = .ok (.bl (p c)) m) (hf : x.length ≤ 100000) :
    eLc L (gN i) [i] bYes F ρ m = .ok (.lst (x.cps.toList.map fun c => D.bl (p c))) m := by
  have := lc_pure (L := L) (g := gN i) (vs := [i]) (F := F) (ρ := ρ) (m := m) (l := charsD x) (fun d => .bl (p (codeOf d))) hL (fun d hd => by
    obtain ⟨c, hc, rfl⟩ := List.mem_map.mp hd
    exact ⟨_, rfl, h c hc⟩) (by rw [charsD, List.length_map, len_toList]; exact hf)
  rw [this, charsD, List.map_map]
  rfl
theorem iSeq_str {F : ES} {ρ : Env} {m m' : List C} {x : Str} (h : F ρ m = .ok (.str x) m') : iSeq F ρ m = .ok (charsD x) m' := by
  unfold iSeq
  rw [h]
  rfl
theorem iSeq_tup {F : ES} {ρ : Env} {m m' : List C} {l : List D} (h : F ρ m = .ok (.tup l) m') : iSeq F ρ m = .ok l m' := by
  unfold iSeq
  rw [h]
  rfl
theorem iSeq_lst {F : ES} {ρ : Env} {m m' : List C} {l : List D} (h : F ρ m = .ok (.lst l) m') : iSeq F ρ m = .ok l m' := by
  unfold iSeq
  rw [h]
  rfl
/-! ### anything that can be asked -/
mutual
def okv : D → Bool
  | .non => true
  | .bl _ => true
  | .int i => strOk i
  | .str x => PyData.strOk x && decide (x.length ≤ 100000)
  | .tup l => okvL l && decide (l.length ≤ 100000)
  | .lst l => okvL l && decide (l.length ≤ 100000)
  | .dic _ vs => okvL vs
  | _ => false
def okvL : List D → Bool
  | [] => true
  | d :: l => okv d && okvL l
end
theorem okvL_mem : ∀ {l : List D} {d : D}, okvL l = true → d ∈ l → okv d = true
  | d :: l, x, h, hx => by
    unfold okvL at h
    rw [Bool.and_eq_true] at h
    rcases List.mem_cons.mp hx with rfl | hx
    · exact h.1
    · exact okvL_mem h.2 hx
theorem okvL_of : ∀ {l : List D}, (∀ d ∈ l, okv d = true) → okvL l = true
  | [], _ => rfl
  | d :: l, h => by
    unfold okvL
    rw [h d List.mem_cons_self, okvL_of fun x hx => h x (List.mem_cons_of_mem _ hx)]
    rfl
theorem okv_tup {l : List D} (h : ∀ d ∈ l, okv d = true) (hl : l.length ≤ 100000) : okv (.tup l) = true := by
  unfold okv
  rw [okvL_of h, decide_eq_true hl]
  rfl
theorem okv_lst {l : List D} (h : ∀ d ∈ l, okv d = true) (hl : l.length ≤ 100000) : okv (.lst l) = true := by
  unfold okv
  rw [okvL_of h, decide_eq_true hl]
  rfl
theorem okv_tup_mem {l : List D} {d : D} (h : okv (.tup l) = true) (hd : d ∈ l) : okv d = true := by
  unfold okv at h
  rw [Bool.and_eq_true] at h
  exact okvL_mem h.1 hd
theorem okv_tup_len {l : List D} (h : okv (.tup l) = true) : l.length ≤ 100000 := by
  unfold okv at h
  rw [Bool.and_eq_true] at h
  exact of_decide_eq_true h.2
theorem okv_lst_mem {l : List D} {d : D} (h : okv (.lst l) = true) (hd : d ∈ l) : okv d = true := by
  unfold okv at h
  rw [Bool.and_eq_true] at h
  exact okvL_mem h.1 hd
theorem okv_lst_len {l : List D} (h : okv (.lst l) = true) : l.length ≤ 100000 := by
  unfold okv at h
  rw [Bool.and_eq_true] at h
  exact of_decide_eq_true h.2
theorem okv_str {x : Str} (h : okv (.str x) = true) : PyData.strOk x = true ∧ x.length ≤ 100000 := by
  unfold okv at h
  rw [Bool.and_eq_true] at h
  exact ⟨h.1, of_decide_eq_true h.2⟩
def isTupB : D → Bool
  | .tup _ => true
  | _ => false
def isStrB : D → Bool
  | .str _ => true
  | _ => false
def isLstB : D → Bool
  | .lst _ => true
  | _ => false
def isBlB : D → Bool
  | .bl _ => true
  | _ => false
def isIntB : D → Bool
  | .int _ => true
  | _ => false
section
variable {d : D} {m : List C}
theorem isi_tup (h : okv d = true) : isiD [d, .ty "tuple"] m = .ok (.bl (isTupB d)) m := by
  cases d <;> first | rfl | (simp [okv] at h)
theorem isi_str (h : okv d = true) : isiD [d, .ty "str"] m = .ok (.bl (isStrB d)) m := by
  cases d <;> first | rfl | (simp [okv] at h)
theorem isi_bool (h : okv d = true) : isiD [d, .ty "bool"] m = .ok (.bl (isBlB d)) m := by
  cases d <;> first | rfl | (simp [okv] at h)
theorem isi_int (h : okv d = true) : isiD [d, .ty "int"] m = .ok (.bl (isIntB d || isBlB d)) m := by
  cases d <;> first | rfl | (simp [okv] at h)
theorem isi_seq (h : okv d = true) : isiD [d, .tup [.ty "tuple", .ty "list"]] m = .ok (.bl (isTupB d || isLstB d)) m := by
  cases d <;> first | rfl | (simp [okv] at h)
end
theorem isTup_of {d : D} (h : isTupB d = true) : ∃ l, d = .tup l := by
  cases d <;> first | exact ⟨_, rfl⟩ | cases h
theorem isStr_of {d : D} (h : isStrB d = true) : ∃ l, d = .str l := by
  cases d <;> first | exact ⟨_, rfl⟩ | cases h
theorem isInt_of {d : D} (h : isIntB d = true) : ∃ l, d = .int l := by
  cases d <;> first | exact ⟨_, rfl⟩ | cases h
/-! ### words, names, texts -/
def textC (c : Nat) : Bool := (decide (32 ≤ c) && decide (c ≤ 126)) || decide (c = 10)
def lineC (c : Nat) : Bool := decide (32 ≤ c) && decide (c ≤ 126)
def lowC (c : Nat) : Bool := decide (97 ≤ c) && decide (c ≤ 122)
def allS (p : Nat → Bool) : D → Bool
  | .str x => x.cps.toList.all p
  | _ => false
def textB (d : D) : Bool := allS textC d
def wordB : D → Bool
  | .str x => decide (x.length ≤ 20) && x.cps.toList.all lineC
  | _ => false
def nameB : D → Bool
  | .str x => (decide (1 ≤ x.length) && decide (x.length ≤ 8)) && x.cps.toList.all lowC
  | _ => false
def cellB (d : D) : Bool := isIntB d || wordB d
def inB2 (lo hi : Int) : D → Bool
  | .int i => decide (lo ≤ i) && decide (i ≤ hi)
  | _ => false
def szB (lo hi : Int) : D → Bool
  | .tup l => decide (lo ≤ (l.length : Int)) && decide ((l.length : Int) ≤ hi)
  | _ => false
def rowB : D → Bool
  | .tup l => (decide (1 ≤ (l.length : Int)) && decide ((l.length : Int) ≤ 5)) && l.all cellB
  | _ => false
def isRule : D → Bool
  | .str x => decide (x = "rule")
  | _ => false
def rule2B : D → Bool
  | .tup [c, d] => nameB c && textB d
  | _ => false
def factB : D → Bool
  | .tup [a, b] => nameB a && (if isRule a then rule2B b else rowB b)
  | _ => false
theorem two_of {d : D} (h : szB 2 2 d = true) : ∃ a b, d = .tup [a, b] := by
  cases d <;> first | cases h | skip
  case tup l =>
    match l with
    | [a, b] => exact ⟨a, b, rfl⟩
    | [] => cases h
    | [a] => cases h
    | a :: b :: c :: l =>
      exfalso
      unfold szB at h
      rw [Bool.and_eq_true, decide_eq_true_eq, decide_eq_true_eq] at h
      simp only [List.length_cons] at h
      omega
theorem fact_no {d : D} (h : szB 2 2 d = false) : factB d = false := by
  cases d <;> first | rfl | skip
  case tup l =>
    match l with
    | [a, b] => cases h
    | [] => rfl
    | [a] => rfl
    | a :: b :: c :: l => rfl
theorem rule2_no {d : D} (h : szB 2 2 d = false) : rule2B d = false := by
  cases d <;> first | rfl | skip
  case tup l =>
    match l with
    | [a, b] => cases h
    | [] => rfl
    | [a] => rfl
    | a :: b :: c :: l => rfl
theorem name_str {d : D} (h : nameB d = true) : ∃ x, d = .str x := by
  cases d <;> first | exact ⟨_, rfl⟩ | cases h
theorem fits_le {n : Nat} (h : n ≤ 100000) : fits n = true := fits_small h
section
variable {c : Nat} {m : List C}
theorem le_sp : sLe " " (one c) = decide (32 ≤ c) := sLe_one (a := 32)
theorem le_ti : sLe (one c) "~" = decide (c ≤ 126) := sLe_one (b := 126)
theorem le_a : sLe "a" (one c) = decide (97 ≤ c) := sLe_one (a := 97)
theorem le_z : sLe (one c) "z" = decide (c ≤ 122) := sLe_one (b := 122)
theorem eq_lf (h : c < 1114112) : eqD (.str (one c)) (.str "\n") m = .ok (.bl (decide (c = 10))) m := eq_one (b := 10) h (by decide)
/-- a sign of a line -/
theorem line_sign {ρ : Env} {i : Nat} (hi : ρ[i]? = some (some (.str (one c)))) : eChain (cmpSD sLe) (cmpSD sLe) (eC (.str " ")) (eVar i) (eC (.str "~")) ρ m = .ok (.bl (lineC c)) m := by
  unfold eChain eC eVar
  simp only [hi, R.bind_ok, cmpS_le, le_sp]
  unfold lineC
  cases decide (32 ≤ c) with
  | false => rfl
  | true =>
    simp only [R.bind_ok, cmpS_le, le_ti]
    rfl
theorem low_sign {ρ : Env} {i : Nat} (hi : ρ[i]? = some (some (.str (one c)))) : eChain (cmpSD sLe) (cmpSD sLe) (eC (.str "a")) (eVar i) (eC (.str "z")) ρ m = .ok (.bl (lowC c)) m := by
  unfold eChain eC eVar
  simp only [hi, R.bind_ok, cmpS_le, le_a]
  unfold lowC
  cases decide (97 ≤ c) with
  | false => rfl
  | true =>
    simp only [R.bind_ok, cmpS_le, le_z]
    rfl
theorem or_bl {F G : ES} {ρ : Env} {b b2 : Bool} (h : F ρ m = .ok (.bl b) m) (h2 : G ρ m = .ok (.bl b2) m) : eOr F G ρ m = .ok (.bl (b || b2)) m := by
  unfold eOr
  rw [h]
  cases b with
  | true => rfl
  | false =>
    show G ρ m = _
    rw [h2]
    rfl
theorem and_bl {F G : ES} {ρ : Env} {b b2 : Bool} (h : F ρ m = .ok (.bl b) m) (h2 : b = true → G ρ m = .ok (.bl b2) m) : eAnd F G ρ m = .ok (.bl (b && b2)) m := by
  unfold eAnd
  rw [h]
  cases b with
  | false => rfl
  | true =>
    show G ρ m = _
    rw [h2 rfl]
    rfl
/-- all of the signs of a text -/
theorem all_signs {i : Nat} {F : ES} {L : LS} {ρ : Env} {x : Str} (p : Nat → Bool) (hL : L ρ m = .ok (charsD x) m) (h : ∀ c ∈ x.cps.toList, F ((wipeD ρ [i]).set i (some (.str (one c)))) m = .ok (.bl (p c)) m) (hf : x.length ≤ 100000) :
    eAr allD (aCons (eLc L (gN i) [i] bYes F) aNil) ρ m = .ok (.bl (x.cps.toList.all p)) m := by
  unfold eAr aCons aNil
  rw [lc_signs p hL h hf]
  exact all_eq
theorem all_map {i : Nat} {F : ES} {L : LS} {ρ : Env} {l : List D} (p : D → Bool) (hL : L ρ m = .ok l m) (h : ∀ d ∈ l, F ((wipeD ρ [i]).set i (some d)) m = .ok (.bl (p d)) m) (hf : l.length ≤ 100000) :
    eAr allD (aCons (eLc L (gN i) [i] bYes F) aNil) ρ m = .ok (.bl (l.all p)) m := by
  unfold eAr aCons aNil
  rw [lc_pure (fun d => .bl (p d)) hL (fun d hd => ⟨_, rfl, h d hd⟩) hf]
  exact all_eq
end
/-! ### evaluation, part by part -/
section
variable {ρ : Env} {m m1 m2 m3 m4 : List C} {F Fa Fb Fc : ES} {A B : BS} {a b c d : D} {G : FS} {f g : D → D → List C → R D} {p q : Bool}
theorem ev_var {i : Nat} (h : ρ[i]? = some (some d)) : eVar i ρ m = .ok d m := by
  unfold eVar
  rw [h]
theorem ev_call1 (ha : Fa ρ m = .ok a m1) (hg : G [a] m1 = .ok d m2) : eCall 1 G (aCons Fa aNil) ρ m = .ok d m2 := by
  unfold eCall aCons aNil
  simp only [ha, R.bind_ok]
  exact hg
theorem ev_call2 (ha : Fa ρ m = .ok a m1) (hb : Fb ρ m1 = .ok b m2) (hg : G [a, b] m2 = .ok d m3) : eCall 2 G (aCons Fa (aCons Fb aNil)) ρ m = .ok d m3 := by
  unfold eCall aCons aNil
  simp only [ha, hb, R.bind_ok]
  exact hg
theorem ev_call3 (ha : Fa ρ m = .ok a m1) (hb : Fb ρ m1 = .ok b m2) (hc : Fc ρ m2 = .ok c m3) (hg : G [a, b, c] m3 = .ok d m4) : eCall 3 G (aCons Fa (aCons Fb (aCons Fc aNil))) ρ m = .ok d m4 := by
  unfold eCall aCons aNil
  simp only [ha, hb, hc, R.bind_ok]
  exact hg
theorem ev_ar1 (ha : Fa ρ m = .ok a m1) (hg : G [a] m1 = .ok d m2) : eAr G (aCons Fa aNil) ρ m = .ok d m2 := by
  unfold eAr aCons aNil
  simp only [ha, R.bind_ok]
  exact hg
theorem ev_ar2 (ha : Fa ρ m = .ok a m1) (hb : Fb ρ m1 = .ok b m2) (hg : G [a, b] m2 = .ok d m3) : eAr G (aCons Fa (aCons Fb aNil)) ρ m = .ok d m3 := by
  unfold eAr aCons aNil
  simp only [ha, hb, R.bind_ok]
  exact hg
theorem ev_bin (ha : Fa ρ m = .ok a m1) (hb : Fb ρ m1 = .ok b m2) (hf : f a b m2 = .ok d m3) : eBin f Fa Fb ρ m = .ok d m3 := by
  unfold eBin
  simp only [ha, hb, R.bind_ok]
  exact hf
theorem ev_chain (ha : Fa ρ m = .ok a m) (hb : Fb ρ m = .ok b m) (hf : f a b m = .ok (.bl p) m) (hc : Fc ρ m = .ok c m) (hg : g b c m = .ok (.bl q) m) : eChain f g Fa Fb Fc ρ m = .ok (.bl (p && q)) m := by
  unfold eChain
  simp only [ha, hb, hf, R.bind_ok]
  cases p with
  | false => rfl
  | true =>
    simp only [hc, hg, R.bind_ok]
    rfl
theorem ev_not (h : F ρ m = .ok (.bl p) m1) : eNot F ρ m = .ok (.bl (!p)) m1 := by
  unfold eNot
  rw [h]
  rfl
theorem ev_if (h : A ρ m = .ok p m1) (h1 : p = true → Fa ρ m1 = .ok d m2) (h2 : p = false → Fb ρ m1 = .ok d m2) : eIf A Fa Fb ρ m = .ok d m2 := by
  unfold eIf
  rw [h]
  cases p with
  | true => exact h1 rfl
  | false => exact h2 rfl
theorem bv_test (h : F ρ m = .ok (.bl p) m1) : bTest F ρ m = .ok p m1 := by
  unfold bTest
  rw [h]
  rfl
theorem bv_tru (h : F ρ m = .ok d m1) (ht : truD m1 d = some p) : bTru F ρ m = .ok p m1 := by
  unfold bTru
  rw [h, R.bind_ok, ht]
theorem bv_trub (h : F ρ m = .ok (.bl p) m1) : bTru F ρ m = .ok p m1 := bv_tru h rfl
theorem bv_not (h : A ρ m = .ok p m1) : bNot A ρ m = .ok (!p) m1 := by
  unfold bNot
  rw [h]
  rfl
theorem bv_and (h : A ρ m = .ok p m) (h2 : p = true → B ρ m = .ok q m) : bAnd A B ρ m = .ok (p && q) m := by
  unfold bAnd
  rw [h]
  cases p with
  | false => rfl
  | true => exact h2 rfl
theorem bv_or (h : A ρ m = .ok p m) (h2 : p = false → B ρ m = .ok q m) : bOr A B ρ m = .ok (p || q) m := by
  unfold bOr
  rw [h]
  cases p with
  | true => rfl
  | false => exact h2 rfl
theorem fn_ret {n : Nat} {ds : List D} (h : F (startD n ds) m = .ok d m1) : fnD n (sRet F) ds m = .ok d m1 := by
  unfold fnD sRet
  rw [h]
  rfl
theorem fn_exc {n : Nat} {ds : List D} {S : SS} {c : Addr} {ns : List Str} {vs : List D} {ρ1 : Env} (h : S (startD n ds) m = .ex c ns vs ρ1 m1) : fnD n S ds m = .exc c ns vs m1 := by
  unfold fnD
  rw [h]
theorem fn_rt {n : Nat} {ds : List D} {S : SS} (h : S (startD n ds) m = .rt d m1) : fnD n S ds m = .ok d m1 := by
  unfold fnD
  rw [h]
theorem fn_nx {n : Nat} {ds : List D} {S : SS} {ρ1 : Env} (h : S (startD n ds) m = .nx ρ1 m1) : fnD n S ds m = .ok .non m1 := by
  unfold fnD
  rw [h]
variable {S S' : SS} {r : RS} {ρ1 : Env}
theorem sv_seq (h : S ρ m = .nx ρ1 m1) (h2 : S' ρ1 m1 = r) : sSeq S S' ρ m = r := by
  unfold sSeq
  rw [h]
  exact h2
theorem sv_seqR (h : S ρ m = .rt d m1) : sSeq S S' ρ m = .rt d m1 := by
  unfold sSeq
  rw [h]
  rfl
theorem sv_seqX {c : Addr} {ns : List Str} {vs : List D} (h : S ρ m = .ex c ns vs ρ1 m1) : sSeq S S' ρ m = .ex c ns vs ρ1 m1 := by
  unfold sSeq
  rw [h]
  rfl
theorem sv_set {i : Nat} (h : F ρ m = .ok d m1) : sSet i F ρ m = .nx (ρ.set i (some d)) m1 := by
  unfold sSet
  rw [h]
  rfl
theorem sv_ret (h : F ρ m = .ok d m1) : sRet F ρ m = .rt d m1 := by
  unfold sRet
  rw [h]
  rfl
theorem sv_expr (h : F ρ m = .ok d m1) : sExpr F ρ m = .nx ρ m1 := by
  unfold sExpr
  rw [h]
  rfl
theorem sv_exprX {c : Addr} {ns : List Str} {vs : List D} (h : F ρ m = .exc c ns vs m1) : sExpr F ρ m = .ex c ns vs ρ m1 := by
  unfold sExpr
  rw [h]
  rfl
theorem sv_retX {c : Addr} {ns : List Str} {vs : List D} (h : F ρ m = .exc c ns vs m1) : sRet F ρ m = .ex c ns vs ρ m1 := by
  unfold sRet
  rw [h]
  rfl
theorem ev_call1X {c : Addr} {ns : List Str} {vs : List D} (ha : Fa ρ m = .ok a m1) (hg : G [a] m1 = .exc c ns vs m2) : eCall 1 G (aCons Fa aNil) ρ m = .exc c ns vs m2 := by
  unfold eCall aCons aNil
  simp only [ha, R.bind_ok]
  exact hg
theorem sv_ifT (h : A ρ m = .ok true m1) (h2 : S ρ m1 = r) : sIf A S S' ρ m = r := by
  unfold sIf
  rw [h]
  exact h2
theorem sv_ifF (h : A ρ m = .ok false m1) (h2 : S' ρ m1 = r) : sIf A S S' ρ m = r := by
  unfold sIf
  rw [h]
  exact h2
theorem sv_if (h : A ρ m = .ok p m1) (h1 : p = true → S ρ m1 = r) (h2 : p = false → S' ρ m1 = r) : sIf A S S' ρ m = r := by
  unfold sIf
  rw [h]
  cases p with
  | true => exact h1 rfl
  | false => exact h2 rfl
theorem loop_cons {g : GS} {B : SS} {ds : List D} {ρ2 : Env} (hg : g d ρ m = some ρ1) (hb : B ρ1 m = .nx ρ2 m2) (h : loopD g B ds ρ2 m2 = r) : loopD g B (d :: ds) ρ m = r := by
  unfold loopD
  rw [hg]
  show (B ρ1 m).turn _ = _
  rw [hb]
  exact h
theorem sv_for {g : GS} {B : SS} {L : LS} {l : List D} (hl : L ρ m = .ok l m1) (h : loopD g B l ρ m1 = r) : sFor L g B ρ m = r := by
  unfold sFor
  rw [hl]
  exact h
end
end DL


/-! DLu: texts: joined, replaced, of ints; what they hold. -/
namespace DL
open PySem PySem.Spec L2
open PyProof.Rows hiding St pairD intD cutD
/-! ### comprehensions of texts, joins -/
theorem lc_signsD {L : LS} {i : Nat} {F : ES} {ρ : Env} {m : List C} {x : Str} (f : Nat → D) (hL : L ρ m = .ok (charsD x) m) (h : ∀ c ∈ x.cps.toList, F ((wipeD ρ [i]).set i (some (.str (one c)))) m = .ok (f c) m) (hf : x.length ≤ 100000) :
    eLc L (gN i) [i] bYes F ρ m = .ok (.lst (x.cps.toList.map f)) m := by
  have := lc_pure (L := L) (g := gN i) (vs := [i]) (F := F) (ρ := ρ) (m := m) (l := charsD x) (fun d => f (codeOf d)) hL (fun d hd => by
    obtain ⟨c, hc, rfl⟩ := List.mem_map.mp hd
    exact ⟨_, rfl, h c hc⟩) (by rw [charsD, List.length_map, len_toList]; exact hf)
  rw [this, charsD, List.map_map]
  rfl
theorem strsD_map : ∀ ys : List Str, strsD (ys.map D.str) = some ys
  | [] => rfl
  | y :: ys => by
    show (strsD (ys.map D.str)).map (y :: ·) = _
    rw [strsD_map ys]
    rfl
theorem ev_join {a : Str} {F : ES} {ρ : Env} {m m1 : List C} {ys : List Str} (h : F ρ m = .ok (.lst (ys.map D.str)) m1) (ho : joinOk a ys = true) : eMt "str" joinD (eC (.str a)) (aCons F aNil) ρ m = .ok (.str (Txt.join a ys)) m1 := by
  unfold eMt eC aCons aNil
  simp only [R.bind_ok, tagOf, if_true, h]
  show (match (seqOf m1 (.lst (ys.map D.str))).bind strsD with
    | some ys => if joinOk a ys then R.ok (D.str (Txt.join a ys)) m1 else .no
    | none => .no) = _
  rw [show (seqOf m1 (.lst (ys.map D.str))).bind strsD = some ys from strsD_map ys]
  show (if joinOk a ys then R.ok (D.str (Txt.join a ys)) m1 else .no) = _
  rw [ho]
  rfl
theorem sum_le {α : Type} {f : α → Nat} {k : Nat} : ∀ {l : List α}, (∀ x ∈ l, f x ≤ k) → (l.map f).sum ≤ l.length * k
  | [], _ => by simp
  | x :: l, h => by
    have h1 := h x List.mem_cons_self
    have h2 := sum_le (l := l) fun y hy => h y (List.mem_cons_of_mem _ hy)
    rw [List.map_cons, List.sum_cons, List.length_cons, Nat.succ_mul]
    omega
theorem joinOk_le {a : Str} {ys : List Str} {k n : Nat} (h : ∀ y ∈ ys, y.length ≤ k) (hn : ys.length ≤ n) (hs : n * k + n * a.length ≤ 16777216) : joinOk a ys = true := by
  unfold joinOk
  have h1 := sum_le (f := fun y : Str => y.length) h
  have h2 : ys.length * k ≤ n * k := Nat.mul_le_mul_right _ hn
  have h3 : ys.length * a.length ≤ n * a.length := Nat.mul_le_mul_right _ hn
  exact decide_eq_true (by omega)
theorem tl_join (a : Str) (ys : List Str) : (Txt.join a ys).cps.toList = TL.joinL a.cps.toList (ys.map fun y => y.cps.toList) := by
  rw [TL.join_eq]
  exact TL.tl_join a ys
theorem joinL_nil : ∀ l : List (List Nat), TL.joinL [] l = l.flatten
  | [] => rfl
  | [x] => by simp [TL.joinL]
  | x :: y :: l => by
    have := joinL_nil (y :: l)
    simp [TL.joinL] at this ⊢
    exact this
theorem str_ext {x y : Str} (h : x.cps.toList = y.cps.toList) : x = y := TL.ext_tl h
theorem tl_add (x y : Str) : (x ++ y).cps.toList = x.cps.toList ++ y.cps.toList := TL.tl_append x y
theorem strIn_one {c : Nat} {y : Str} : strIn (one c) y = decide (c ∈ y.cps.toList) := StrLaws.found_one y c
/-! ### replacing one sign -/
theorem repl1 {a : Nat} {z : List Nat} : ∀ l : List Nat, PySem.StrLaws.replL [a] z l = l.flatMap fun c => if c = a then z else [c]
  | [] => by rw [PySem.StrLaws.replL_nil]; rfl
  | c :: l => by
    rw [List.flatMap_cons]
    by_cases h : c = a
    · rw [PySem.StrLaws.replL_hit (by simp) (by simp [h]), if_pos h]
      show z ++ PySem.StrLaws.replL [a] z l = _
      rw [repl1 l]
    · rw [PySem.StrLaws.replL_miss (by simp [h]), if_neg h, repl1 l]
      rfl
theorem replace1 {x y z : Str} {a : Nat} (hy : y = one a) : (Txt.replace x y z).cps.toList = x.cps.toList.flatMap fun c => if c = a then z.cps.toList else [c] := by
  subst hy
  rw [PySem.StrLaws.replace_list (show 1 ≤ (one a).length from Nat.le_refl 1)]
  exact repl1 _
theorem ev_repl {y z : Str} {F : ES} {ρ : Env} {m m1 : List C} {x : Str} (h : F ρ m = .ok (.str x) m1) (ho : replOk x z = true) : eRepl y z F ρ m = .ok (.str (Txt.replace x y z)) m1 := by
  unfold eRepl
  rw [h]
  show (if replOk x z then R.ok (D.str (Txt.replace x y z)) m1 else .no) = _
  rw [ho]
  rfl
theorem replOk_le {x z : Str} {k n : Nat} (hx : x.length ≤ k) (hz : z.length ≤ n) (h : k + (k + 1) * n ≤ 16777216) : replOk x z = true := by
  unfold replOk
  have : (x.length + 1) * z.length ≤ (k + 1) * n := Nat.mul_le_mul (by omega) hz
  exact decide_eq_true (by omega)
theorem replace_len {x y z : Str} : (Txt.replace x y z).length ≤ x.length + (x.length + 1) * z.length := TK.replace_len x y z
/-! ### signs that are none too great -/
theorem strOk_add {x y : Str} (hx : PyData.strOk x = true) (hy : PyData.strOk y = true) : PyData.strOk (x ++ y) = true := strOk_of fun c hc => by
  rw [tl_add] at hc
  rcases List.mem_append.mp hc with h | h
  · exact strOk_mem hx h
  · exact strOk_mem hy h
theorem mem_joinL {a : List Nat} {c : Nat} : ∀ {l : List (List Nat)}, c ∈ TL.joinL a l → c ∈ a ∨ ∃ x ∈ l, c ∈ x
  | [], h => by simp [TL.joinL] at h
  | [x], h => .inr ⟨x, by simp, by simpa [TL.joinL] using h⟩
  | x :: y :: l, h => by
    rw [show TL.joinL a (x :: y :: l) = x ++ (a ++ TL.joinL a (y :: l)) by simp [TL.joinL]] at h
    rcases List.mem_append.mp h with h | h
    · exact .inr ⟨x, by simp, h⟩
    · rcases List.mem_append.mp h with h | h
      · exact .inl h
      · rcases mem_joinL h with h | ⟨z, hz, h⟩
        · exact .inl h
        · exact .inr ⟨z, List.mem_cons_of_mem _ hz, h⟩
theorem strOk_join {a : Str} {ys : List Str} (ha : PyData.strOk a = true) (h : ∀ y ∈ ys, PyData.strOk y = true) : PyData.strOk (Txt.join a ys) = true := strOk_of fun c hc => by
  rw [tl_join] at hc
  rcases mem_joinL hc with hc | ⟨x, hx, hc⟩
  · exact strOk_mem ha hc
  · obtain ⟨y, hy, rfl⟩ := List.mem_map.mp hx
    exact strOk_mem (h y hy) hc
theorem len_joinL {a : List Nat} : ∀ l : List (List Nat), (TL.joinL a l).length ≤ (l.map List.length).sum + l.length * a.length
  | [] => by simp [TL.joinL]
  | [x] => by simp [TL.joinL]
  | x :: y :: l => by
    have := len_joinL (a := a) (y :: l)
    rw [show TL.joinL a (x :: y :: l) = x ++ (a ++ TL.joinL a (y :: l)) by simp [TL.joinL]]
    rw [List.length_append, List.length_append, List.map_cons, List.sum_cons, List.length_cons (as := y :: l), Nat.succ_mul]
    omega
theorem len_joinS {a : Str} {ys : List Str} {k n : Nat} (h : ∀ y ∈ ys, y.length ≤ k) (hn : ys.length ≤ n) : (Txt.join a ys).length ≤ n * k + n * a.length := by
  rw [← len_toList, tl_join]
  refine Nat.le_trans (len_joinL _) ?_
  rw [List.map_map, List.length_map, show (List.length ∘ fun y : Str => y.cps.toList) = fun y : Str => y.length from funext fun y => len_toList]
  have h1 := sum_le (f := fun y : Str => y.length) h
  have h2 : ys.length * k ≤ n * k := Nat.mul_le_mul_right _ hn
  have h3 : ys.length * a.cps.toList.length ≤ n * a.length := by rw [len_toList]; exact Nat.mul_le_mul_right _ hn
  omega
theorem len_add {x y : Str} : (x ++ y).length = x.length + y.length := by
  rw [← len_toList, tl_add, List.length_append, len_toList, len_toList]
/-! ### the text of an int -/
abbrev intT (i : Int) : Str := Str.ofString (toString i)
theorem int_codes {i : Int} {c : Nat} (h : c ∈ (intT i).cps.toList) : c = 45 ∨ 48 ≤ c ∧ c ≤ 57 := by
  by_cases h1 : c = 45
  · exact .inl h1
  · right
    by_cases h2 : c < 48 ∨ 57 < c
    · exact absurd h (int_text_free' c ⟨h1, h2⟩ i)
    · omega
theorem strOk_int {i : Int} : PyData.strOk (intT i) = true := strOk_of fun c hc => by
  rcases int_codes hc with h | h <;> omega
theorem len_int {i : Int} (h : strOk i = true) : (intT i).length ≤ 1921 := int_text_len_1921 (of_decide_eq_true h)
theorem strD_eq {i : Int} {m : List C} (h : strOk i = true) : strD [.int i] m = .ok (.str (intT i)) m := by
  show (if strOk i then R.ok (D.str (intT i)) m else .no) = _
  rw [h]
  rfl
theorem mulOk_abs {i j : Int} (h1 : i.natAbs < 1000000000000000000000000000000000000000000000000000000000000) (h2 : j.natAbs < 1000000000000000000000000000000000000000000000000000000000000) : mulOk i j = true :=
  mulOk_of (Nat.lt_of_lt_of_le (show i.natAbs < 2 ^ 200 by omega) (Nat.pow_le_pow_right (by decide) (by decide))) (Nat.lt_of_lt_of_le (show j.natAbs < 2 ^ 200 by omega) (Nat.pow_le_pow_right (by decide) (by decide)))
theorem mul_eq {i j : Int} {m : List C} (h : mulOk i j = true) : mulD (.int i) (.int j) m = .ok (.int (i * j)) m := by rw [mulD_int, h]; rfl
theorem mod_eq {i j : Int} {m : List C} (h : 0 < j) : modD (.int i) (.int j) m = .ok (.int (i % j)) m := by rw [modD_int, decide_eq_true h]; rfl
theorem addS {x y : Str} {m : List C} (h : x.length + y.length ≤ 16777216) : addD (.str x) (.str y) m = .ok (.str (x ++ y)) m := by
  rw [addD_str, show fits (x.length + y.length) = true from decide_eq_true h]
  rfl
end DL


/-! DLr2: draws, loops and comprehensions as equations. -/
namespace DL
open PySem PySem.Spec L2
open PyProof.Rows hiding St pairD intD cutD
section
variable {n b : Nat} {m : List C} {G : FS}
theorem draw_gets {k : Int} (hG : Draws G) (h : Hand n b m) (hb : b < 1000000) (hk : 1 ≤ k) (hk2 : k < 4294967296) : ∃ j m', G [.cell n, .int k] m = .ok (.int j) m' ∧ 0 ≤ j ∧ j < k ∧ Hand n (b + 1) m' := by
  obtain ⟨x, m', e, j, c', rfl, h1, h2, h3, rfl⟩ := wR_ex (hG h (by omega) hk hk2 (fun x m' => ∃ j c', x = .int j ∧ 0 ≤ j ∧ j < k ∧ HandC (b + 1) c' ∧ m' = m.set n c') fun j c' h1 h2 h3 => ⟨j, c', rfl, h1, h2, h3, rfl⟩)
  exact ⟨j, _, e, h1, h2, Hand.set h.lt h3⟩
theorem some_gets {l : List D} (hG : Somes G) (h : Hand n b m) (hb : b < 1000000) (hl : l ≠ []) (hl2 : l.length ≤ 100000) : ∃ x m', G [.cell n, .lst l] m = .ok x m' ∧ x ∈ l ∧ Hand n (b + 1) m' := by
  obtain ⟨x, m', e, c', h1, h3, rfl⟩ := wR_ex (hG h (by omega) hl hl2 (fun x m' => ∃ c', x ∈ l ∧ HandC (b + 1) c' ∧ m' = m.set n c') fun x c' h1 h3 => ⟨c', h1, h3, rfl⟩)
  exact ⟨x, _, e, h1, Hand.set h.lt h3⟩
end
section
variable {ρ : Env} {m m1 m2 : List C} {F : ES} {L : LS} {a d : D} {l : List D} {A : BS}
theorem ev_nil : aNil ρ m = .ok [] m := rfl
theorem ev_cons (ha : F ρ m = .ok a m1) (hl : L ρ m1 = .ok l m2) : aCons F L ρ m = .ok (a :: l) m2 := by
  unfold aCons
  simp only [ha, hl, R.bind_ok]
theorem ev_lst (h : L ρ m = .ok l m1) (hf : l.length ≤ 100000) : eLst L ρ m = .ok (.lst l) m1 := by
  unfold eLst
  rw [h, R.bind_ok, if_pos (fits_small hf)]
theorem ev_tup (h : L ρ m = .ok l m1) (hf : l.length ≤ 100000) : eTup L ρ m = .ok (.tup l) m1 := by
  unfold eTup
  rw [h, R.bind_ok, if_pos (fits_small hf)]
theorem ev_lstC (h : L ρ m = .ok l m1) (hf : l.length ≤ 100000) : eLstC L ρ m = .ok (.cell m1.length) (m1 ++ [.lst l]) := by
  unfold eLstC
  rw [h, R.bind_ok, if_pos (fits_small hf)]
theorem ev_calln {n : Nat} {G : FS} (h : L ρ m = .ok l m1) (hl : l.length = n) (hg : G l m1 = .ok d m2) : eCall n G L ρ m = .ok d m2 := by
  unfold eCall
  rw [h, R.bind_ok, if_pos hl]
  exact hg
/-- a loop by an invariant of what is left -/
theorem loop_inv {g : GS} {B : SS} (I : List D → Env → List C → Prop)
    (hB : ∀ d ds ρ m, I (d :: ds) ρ m → ∃ ρ1 ρ2 m2, g d ρ m = some ρ1 ∧ B ρ1 m = .nx ρ2 m2 ∧ I ds ρ2 m2) : ∀ {l : List D} {ρ : Env} {m : List C}, I l ρ m → ∃ ρ' m', loopD g B l ρ m = .nx ρ' m' ∧ I [] ρ' m'
  | [], ρ, m, h => ⟨ρ, m, rfl, h⟩
  | d :: ds, ρ, m, h => by
    obtain ⟨ρ1, ρ2, m2, h1, h2, h3⟩ := hB d ds ρ m h
    obtain ⟨ρ', m', e, hi⟩ := loop_inv I hB h3
    exact ⟨ρ', m', loop_cons h1 h2 e, hi⟩
theorem lc_inv {g : GS} {vs : List Nat} (J : List D → List D → List C → Prop) (hL : L ρ m = .ok l m1) (h0 : J [] l m1)
    (hB : ∀ ys d ds m, J ys (d :: ds) m → ∃ ρ1 y m2, g d (wipeD ρ vs) m = some ρ1 ∧ F ρ1 m = .ok y m2 ∧ J (ys ++ [y]) ds m2) (hlen : ∀ ys m, J ys [] m → ys.length ≤ 100000) : ∃ ys m', eLc L g vs bYes F ρ m = .ok (.lst ys) m' ∧ J ys [] m' := by
  have := wR_comp (g := g) (vs := vs) (A := bYes) (F := F) (ρ := ρ) (Q := fun ys m' => J ys [] m') J (fun ys m h => h) (fun ys d ds m h => by
    obtain ⟨ρ1, y, m2, h1, h2, h3⟩ := hB ys d ds m h
    refine ⟨ρ1, h1, ?_⟩
    rw [show bYes ρ1 m = .ok true m from rfl, wR_ok, if_pos rfl, h2, wR_ok]
    exact h3) (l := l) (ys := []) (m := m1) h0
  obtain ⟨zs, m', e, h⟩ := wR_ex this
  refine ⟨zs, m', ?_, h⟩
  unfold eLc
  rw [hL, R.bind_ok, e, R.bind_ok]
  unfold compEnd
  rw [if_pos (fits_small (hlen zs m' h))]
theorem ev_range1 {k : Int} {G : LS} (h : G ρ m = .ok [.int k] m1) (h0 : -1000000 ≤ k) (h1 : k < 1000000) : iRng1 G ρ m = .ok (rangeD 0 k.toNat) m1 := by
  unfold iRng1
  rw [h]
  show (if small62 k then R.ok (rangeD 0 k.toNat) m1 else .no) = _
  rw [if_pos]
  unfold small62
  rw [Bool.and_eq_true]
  exact ⟨decide_eq_true (by omega), decide_eq_true (by omega)⟩
theorem len_range {lo : Int} {k : Nat} : (rangeD lo k).length = k := by simp [rangeD]
theorem sv_par {i j : Nat} {G : LS} {x y : D} (h : G ρ m = .ok [x, y] m1) : sPar i j G ρ m = .nx ((ρ.set i (some x)).set j (some y)) m1 := by
  unfold sPar
  rw [h]
  rfl
theorem sv_par3 {i j k : Nat} {G : LS} {x y z : D} (h : G ρ m = .ok [x, y, z] m1) : sPar3 i j k G ρ m = .nx (((ρ.set i (some x)).set j (some y)).set k (some z)) m1 := by
  unfold sPar3
  rw [h]
  rfl
theorem sv_asg {g : GS} {ρ1 : Env} (h : F ρ m = .ok d m1) (hg : g d ρ m1 = some ρ1) : sAsg F g ρ m = .nx ρ1 m1 := by
  unfold sAsg
  rw [h]
  show RS.opt (g d ρ m1) _ = _
  rw [hg]
  rfl
theorem ix_at {l : List D} {i : Int} {x : D} (h0 : 0 ≤ i) (h : l[i.toNat]? = some x) : ixD (.lst l) (.int i) m = .ok x m := by rw [ixD_lst, atI_nat h0 h]
theorem ix_atT {l : List D} {i : Int} {x : D} (h0 : 0 ≤ i) (h : l[i.toNat]? = some x) : ixD (.tup l) (.int i) m = .ok x m := by rw [ixD_tup, atI_nat h0 h]
/-- an item at a drawn place -/
theorem ix_lt {l : List D} {i : Int} (h0 : 0 ≤ i) (h : i < l.length) : ∃ x, x ∈ l ∧ ixD (.lst l) (.int i) m = .ok x m := by
  have hl : i.toNat < l.length := by omega
  exact ⟨_, List.getElem_mem hl, ix_at h0 (List.getElem?_eq_getElem hl)⟩
theorem ev_dic0 : eFrz eDicC ρ m = .ok (.dic [] []) (m ++ [.dead]) := by
  unfold eFrz eDicC
  rw [R.bind_ok]
  unfold frzR
  simp
theorem ev_frzL (h : F ρ m = .ok (.cell m.length) (m ++ [.lst l])) : eFrz F ρ m = .ok (.lst l) (m ++ [.dead]) := by
  unfold eFrz
  rw [h, R.bind_ok]
  unfold frzR
  simp
theorem mem_repS {x : Str} {c : Nat} {k : Nat} (h : c ∈ (repS x k).cps.toList) : c ∈ x.cps.toList := by
  have key : ∀ (k : Nat) (acc : Array Nat), c ∈ ((List.replicate k x.cps).foldl (· ++ ·) acc).toList → c ∈ acc.toList ∨ c ∈ x.cps.toList := by
    intro k
    induction k with
    | zero => intro acc h; exact .inl h
    | succ k ih =>
      intro acc h
      rw [List.replicate_succ, List.foldl_cons] at h
      rcases ih _ h with h | h
      · rw [Array.toList_append] at h
        exact List.mem_append.mp h
      · exact .inr h
  rcases key k #[] h with h | h
  · simp at h
  · exact h
theorem rep_eq {x : Str} {k : Int} (h0 : 0 ≤ k) (h1 : k ≤ 100000) (h2 : x.length ≤ 100) : mulAD (.str x) (.int k) m = .ok (.str (repS x k.toNat)) m := by
  show (if 0 ≤ k ∧ k ≤ 100000 ∧ x.length ≤ 100 then R.ok (D.str (repS x k.toNat)) m else .no) = _
  rw [if_pos ⟨h0, h1, h2⟩]
theorem ev_pc {Fk Fv : ES} {S : PS} {k v : D} {kk : Key} {q : List Key × List D} {m3 : List C} (hk : Fk ρ m = .ok k m1) (hv : Fv ρ m1 = .ok v m2) (hs : S ρ m2 = .ok q m3) (hkk : keyOf k = some kk) : pCons Fk Fv S ρ m = .ok (kk :: q.1, v :: q.2) m3 := by
  unfold pCons
  simp only [hk, hv, hs, R.bind_ok, hkk]
theorem ev_disp {S : PS} {q r : List Key × List D} (h : S ρ m = .ok q m1) (hl : q.1.length ≤ 15) (hm : mergeD [] [] q.1 q.2 = r) : eDisp S ρ m = .ok (.dic r.1 r.2) m1 := by
  unfold eDisp
  rw [h, R.bind_ok, if_pos hl, hm]
theorem isED_ref {K : PySem.W.Frag} {a c k : Addr} {b : Bool} (h : ExcC K c) (e : PySem.W.kitOne K (.ref c) (.ref k) = some b) : isED K a c [.ref a, .ref k] m = .ok (.bl b) m := by
  unfold isED
  simp only [clsV]
  rw [if_pos ⟨rfl, h⟩, e]
theorem isED_ty {K : PySem.W.Frag} {a c : Addr} {n : String} {b : Bool} (h : ExcC K c) (e : PySem.W.kitOne K (.ref c) (.type n) = some b) : isED K a c [.ref a, .ty n] m = .ok (.bl b) m := by
  unfold isED
  simp only [clsV]
  rw [if_pos ⟨rfl, h⟩, e]
theorem ev_act {L0 : D} {th : Th} (h : ρ[0]? = some (some L0)) : eAct L0 th ρ m = th m := by
  unfold eAct
  rw [if_pos h]
/-- a try whose suite runs through -/
theorem sv_tryR {B : SS} {i : Nat} {ok : Addr → Option Bool} {S : Addr → Addr → SS} (h : B ρ m = .rt d m1) : sTryAs B i ok S ρ m = .rt d m1 := by
  unfold sTryAs
  rw [h]
theorem sv_tryN {B : SS} {i : Nat} {ok : Addr → Option Bool} {S : Addr → Addr → SS} {ρ1 : Env} (h : B ρ m = .nx ρ1 m1) : sTryAs B i ok S ρ m = .nx ρ1 m1 := by
  unfold sTryAs
  rw [h]
/-- a try whose suite raises, caught -/
theorem sv_tryX {B : SS} {i : Nat} {ok : Addr → Option Bool} {S : Addr → Addr → SS} {ρ1 : Env} {c : Addr} {vs : List D} {r : RS} (h : B ρ m = .ex c [] vs ρ1 m1) (hok : ok c = some true) (hS : ∀ a, (S a c (ρ1.set i (some (.ref a))) m1).unset i = r) : sTryAs B i ok S ρ m = r := by
  unfold sTryAs
  rw [h]
  simp only [hok]
  exact agree_of hS
theorem lam_ok {G : Th → Th} {F : ES} (h : G (F ρ) m = .ok d m1) : eLam G F ρ m = .ok d m1 := by
  unfold eLam
  rw [h]
theorem mem_cutD {l : List D} {lo hi : Option Int} {x : D} (h : x ∈ cutD l lo hi) : x ∈ l := List.mem_of_mem_drop (List.mem_of_mem_take h)
theorem len_cutD {l : List D} {lo hi : Option Int} : (cutD l lo hi).length ≤ l.length := by
  unfold cutD
  rw [List.length_take, List.length_drop]
  omega
end
end DL


/-! DM1: instances of own classes: fields, methods, making. -/
namespace DL
open PySem PySem.Spec L2
open PyProof.Rows hiding St pairD intD cutD
/-! ### fields -/
def lookF : List Str → List D → Str → Option D
  | g :: ns, d :: vs, f => if f == g then some d else lookF ns vs f
  | _, _, _ => none
def putFs : List Str → List D → Str → D → List Str × List D
  | g :: ns, x :: vs, f, v => if g = f then (g :: ns, v :: vs) else (g :: (putFs ns vs f v).1, x :: (putFs ns vs f v).2)
  | _, _, f, v => ([f], [v])
section
variable {K : PySem.W.Frag} {μ : List Addr} {H : Hp}
theorem lookF_rep : ∀ {ns : List Str} {vs : List D} {xs : List V} {f : Str}, RepL K μ H vs xs → ns.length = vs.length →
    (∀ d, lookF ns vs f = some d → ∃ v, (ns.zip xs).lookup f = some v ∧ Rep K μ H d v) ∧ (lookF ns vs f = none → (ns.zip xs).lookup f = none)
  | [], _, _, _, _, _ => ⟨fun d e => (by simp [lookF] at e), fun _ => rfl⟩
  | g :: ns, [], _, _, _, e => (by cases e)
  | g :: ns, d :: vs, _, f, r, e => by
    obtain ⟨x, xs, rfl, r1, r2⟩ := r
    have ih := lookF_rep (ns := ns) (f := f) r2 (Nat.succ.inj e)
    rw [List.zip_cons_cons]
    unfold lookF
    cases h : (f == g) with
    | true =>
      refine ⟨fun d' e' => ?_, fun z => ?_⟩
      · simp only [if_true, Option.some.injEq] at e'
        subst e'
        exact ⟨x, by simp [List.lookup, h], r1⟩
      · simp at z
    | false =>
      have e2 : List.lookup f ((g, x) :: ns.zip xs) = (ns.zip xs).lookup f := by simp [List.lookup, h]
      rw [e2]
      simpa using ih
theorem putF_rep : ∀ {ns : List Str} {vs : List D} {xs : List V} {f : Str} {d : D} {v : V}, RepL K μ H vs xs → ns.length = vs.length → Rep K μ H d v →
    ∃ ys, putF f v (ns.zip xs) = (putFs ns vs f d).1.zip ys ∧ RepL K μ H (putFs ns vs f d).2 ys ∧ (putFs ns vs f d).1.length = (putFs ns vs f d).2.length
  | [], vs, xs, f, d, v, r, e, rv => by
    have : vs = [] := by simpa using e.symm
    subst this
    cases r
    exact ⟨[v], rfl, ⟨v, [], rfl, rv, rfl⟩, rfl⟩
  | g :: ns, [], _, _, _, _, _, e, _ => (by cases e)
  | g :: ns, d' :: vs, _, f, d, v, r, e, rv => by
    obtain ⟨x, xs, rfl, r1, r2⟩ := r
    obtain ⟨ys, h1, h2, h3⟩ := putF_rep (f := f) r2 (Nat.succ.inj e) rv
    rw [List.zip_cons_cons]
    unfold putFs putF
    by_cases h : g = f
    · rw [if_pos h, if_pos h]
      exact ⟨v :: xs, rfl, ⟨v, xs, rfl, rv, r2⟩, e⟩
    · rw [if_neg h, if_neg h]
      refine ⟨x :: ys, ?_, ⟨x, ys, rfl, r1, h2⟩, by simp [h3]⟩
      rw [List.zip_cons_cons, h1]
end
/-- the instance at a cell: its class is one of these -/
def insOf (cs : List Addr) (m : List C) : D → Option (List Str × List D)
  | .cell n => match m[n]? with
    | some (.ins cl ns vs) => if cl ∈ cs then some (ns, vs) else none
    | _ => none
  | _ => none
def eFld (cs : List Addr) (f : Str) (F : ES) : ES := fun ρ m => (F ρ m).bind fun d m1 => match insOf cs m1 d with
  | some (ns, vs) => (match lookF ns vs f with
    | some v => .ok v m1
    | none => .no)
  | none => .no
section
variable {X : Cx} {T : List (Addr × Str)} {W : WX}
theorem insOf_rep {K : PySem.W.Frag} {μ : List Addr} {H : Hp} {m : List C} (S : Sto T K μ H m) {cs : List Addr} {d : D} {x : V} {ns : List Str} {vs : List D} (r : Rep K μ H d x) (e : insOf cs m d = some (ns, vs)) :
    ∃ n a cl dx xs, d = .cell n ∧ μ[n]? = some a ∧ x = .ref a ∧ cl ∈ cs ∧ m[n]? = some (.ins cl ns vs) ∧ H a = some (.ins cl dx (ns.zip xs)) ∧ ns.length = vs.length ∧ RepL K μ H vs xs := by
  unfold insOf at e
  split at e
  · rename_i n
    obtain ⟨a, ea, rfl⟩ := r
    split at e
    · rename_i cl ns' vs' hm
      split at e
      · rename_i hc
        cases e
        obtain ⟨dx, xs, eh, hl, rl⟩ := S.rep n _ a hm ea
        exact ⟨n, a, cl, dx, xs, rfl, ea, rfl, hc, hm, eh, hl, rl⟩
      · cases e
    · cases e
  · cases e
theorem de_fld {e : Expr} {F : ES} {f : Str} {pos : Pos} {cs : List Addr} (h : DE X T W e F) (hc : ∀ C ∈ cs, Cls X.K C ∧ NoAttr X.K C f) (hb : attributeBase e f X.env (eval e X.env) = eval e X.env := by rfl) : DE X T W (.Attribute e f pos) (eFld cs f F) :=
  ⟨(pe_fld h.run hb).weak fun σ H Q ⟨μ, ρ, m, er, s, q⟩ => tG_mk er s (q.bind fun d m1 μ1 H1 x x1 s1 r1 q1 => by
    split at q1
    · rename_i ns vs hi
      obtain ⟨n, a, cl, dx, xs, rfl, ea, rfl, hcs, hm, eh, hl, rl⟩ := insOf_rep s1 r1 hi
      split at q1
      · rename_i v hv
        obtain ⟨y, hy, ry⟩ := (lookF_rep rl hl).1 v hv
        exact ⟨a, cl, dx, _, y, rfl, eh, (hc cl hcs).1, (hc cl hcs).2, hy, post_here s1 ry q1⟩
      · exact q1.elim
    · exact q1.elim)⟩
/-! ### o.f = value -/
def putIns (cs : List Addr) (f : Str) (d v : D) (m : List C) : Option (List C) := match d with
  | .cell n => (match m[n]? with
    | some (.ins cl ns vs) => if cl ∈ cs ∧ ns.length < 1000 then some (m.set n (.ins cl (putFs ns vs f v).1 (putFs ns vs f v).2)) else none
    | _ => none)
  | _ => none
def sFldS (cs : List Addr) (f : Str) (Fo Fv : ES) : SS := fun ρ m => (Fv ρ m).go ρ fun v m1 => (Fo ρ m1).go ρ fun d m2 => match putIns cs f d v m2 with
  | some m3 => .nx ρ m3
  | none => .no
theorem ds_fld {o value : Expr} {Fo Fv : ES} {f : Str} {pos pos' : Pos} {cs : List Addr} (ho : DE X T W o Fo) (hv : DE X T W value Fv) (hc : ∀ C ∈ cs, Cls X.K C ∧ NoAttr X.K C f) (hs : swapsWith value (some (.Attribute o f pos')) pos.line X.env = pure false := by rfl) :
    DS X T W (.Assign [.Attribute o f pos'] value pos) (sFldS cs f Fo Fv) :=
  ⟨(ps_fld ho.run hv.run hs).weak fun Z σ H ⟨μ, ρ, m, er, s, q⟩ => tG_mk er s (q.go er fun v m1 μ1 H1 y x1 s1 r1 q1 => tG_mk (er.ext x1) s1 (q1.go (er.ext x1) fun d m2 μ2 H2 x x2 s2 r2 q2 => by
    unfold putIns at q2
    split at q2
    · rename_i m3 h3
      split at h3
      · rename_i n
        obtain ⟨a, ea, rfl⟩ := r2
        split at h3
        · rename_i cl ns vs hm
          split at h3
          · rename_i hcs
            cases h3
            obtain ⟨dx, xs, eh, hl, rl⟩ := s2.rep n _ a hm ea
            obtain ⟨ys, h1, h2, h4⟩ := putF_rep (f := f) rl hl (r1.ext x2)
            have hce : Celled (H2 a) := by rw [eh]; trivial
            have xx : Ext μ2 H2 μ2 (upd H2 a (.ins cl dx (putF f y (ns.zip xs)))) := .mut (List.mem_of_getElem? ea) hce
            refine ⟨a, cl, dx, _, rfl, eh, (hc cl hcs.1).1, (hc cl hcs.1).2, Nat.lt_of_le_of_lt (by rw [List.length_zip]; exact Nat.min_le_left _ _) hcs.2, ?_⟩
            exact q2 μ2 _ σ xx (s2.set ea hce ⟨dx, ys, by rw [upd_same, h1], h4, h2.ext xx⟩) (((er.ext x1).ext x2).ext xx)
          · cases h3
        · cases h3
      · cases h3
    · exact q2.elim))⟩
/-! ### o.m(e, ..) -/
section
variable {CX : CXT} {k : Nat} {f C : Addr} {fd : FuncData} {ps : List Str} {sp : Sp} {E : St → XK} {m : Str} {p pos apos : Pos} {e o : Expr} {es : List Expr} {ta : TE} {t : TA}
def tMethD (C : Addr) (m : Str) (sp : Sp) (E : St → XK) (ta : TE) (t : TA) : TE := fun σ H Q => ta σ H fun x H1 => ∃ a dx fs, x = .ref a ∧ H1 a = some (.ins C dx fs) ∧ fs.lookup m = none ∧ t σ H1 fun vs H2 => sp (x :: vs) H2 Q (E σ)
theorem pe_methD {pl : Sem Bool} (he : PE X o ta) (c : Cls X.K C) (hm : Meth X.K C m f) (F : FnG X.prog X.w X.K X.mg X.base CX k f fd ps sp) (hr : RmG k X.A) (hb : Binds X.K fd ps []) (hx : ∀ σ, PassesAt CX X σ (E σ)) (ha : PA X (e :: es) t)
    (hst : starEach (e :: es) X.env = (false, eval e X.env) :: starEach es X.env := by rfl) (hpl : (backTo pos (starEach es X.env)).any (·.1) = false := by rfl)
    (ht : eval (.Call (.Attribute o m apos) (e :: es) [] pos) X.env = (do
      let ov ← eval o X.env
      standAt apos.atName
      let (f, first) ← holding [ov] (getMethod ov m pl)
      callWith pos f first (backTo pos (starEach (e :: es) X.env)) (backToKw pos (keywordEach [] X.env))) := by rfl) :
    PE X (.Call (.Attribute o m apos) (e :: es) [] pos) (tMethD C m sp E ta t) := ⟨fun pins s σ H Q I h => by
  refine PySem.W.methodCall_KW (pl := pl) (thn (he.run pins s σ H _ I h) fun u s1 hh => ?_) ht
  obtain ⟨x, H1, I1, rx, a, dx, fs, rfl, ea, l, q⟩ := hh
  cases (show u = Value.ref a from rx)
  refine getmeth_ok I1 ea c hm l (PySem.W.callWith_K (first := [.ref a]) (h₀ := X.base) I.ok.mod.kin hm.kp (thn (ha.run pos pins s1 σ H1 _ I1 q) fun us s2 hh2 => ?_) hst hpl)
  obtain ⟨vs, H2, I2, r, q2⟩ := hh2
  exact ⟨I2.kIn, run_fnG (us := .ref a :: us) (vs := .ref a :: vs) F hr hb (hx σ) I2 (.cons rfl r) q2⟩⟩
theorem pe_methD0 {pl : Sem Bool} (he : PE X o ta) (c : Cls X.K C) (hm : Meth X.K C m f) (F : FnG X.prog X.w X.K X.mg X.base CX k f fd ps sp) (hr : RmG k X.A) (hb : Binds X.K fd ps []) (hx : ∀ σ, PassesAt CX X σ (E σ))
    (ht : eval (.Call (.Attribute o m apos) [] [] pos) X.env = (do
      let ov ← eval o X.env
      standAt apos.atName
      let (f, first) ← holding [ov] (getMethod ov m pl)
      callWith pos f first (backTo pos (starEach [] X.env)) (backToKw pos (keywordEach [] X.env))) := by rfl) :
    PE X (.Call (.Attribute o m apos) [] [] pos) (tMethD C m sp E ta tNil) := ⟨fun pins s σ H Q I h => by
  refine PySem.W.methodCall_KW (pl := pl) (thn (he.run pins s σ H _ I h) fun u s1 hh => ?_) ht
  obtain ⟨x, H1, I1, rx, a, dx, fs, rfl, ea, l, q⟩ := hh
  cases (show u = Value.ref a from rx)
  refine getmeth_ok I1 ea c hm l (PySem.W.callWith_K0 (first := [.ref a]) I1.kIn hm.kp ?_)
  exact run_fnG (us := [.ref a]) (vs := [.ref a]) F hr hb (hx σ) I1 (.cons rfl .nil) q⟩
end
end
end DL


/-! DM2: methods called, instances made, over trees. -/
namespace DL
open PySem PySem.Spec L2
open PyProof.Rows hiding St pairD intD cutD
/-- a method of the class at C as the top has left it -/
structure MethAt (K : PySem.W.Frag) (C : Addr) (x qual : Str) (st : Stmt) (ps : List Str) where
  f : Addr
  fd : FuncData
  F : Fun K x qual st f fd
  m : Meth K C x f
  b : Binds K fd ps []
def isNonD : D → Bool
  | .non => true
  | _ => false
theorem isNonD_rep {K : PySem.W.Frag} {μ : List Addr} {H : Hp} {d : D} {v : V} (h : isNonD d = true) (r : Rep K μ H d v) : v = .non := by
  cases d <;> first | exact r | cases h
def eMeth (C : Addr) (mn : Str) (n : Nat) (G : FS) (Fo : ES) (A : LS) : ES := fun ρ m => (Fo ρ m).bind fun o m1 => match insOf [C] m1 o with
  | some (ns, vs) => if (lookF ns vs mn).isNone then (A ρ m1).bind fun ds m2 => if ds.length + 1 = n then G (o :: ds) m2 else .no else .no
  | none => .no
def eMake (C : Addr) (n : Nat) (G : FS) (A : LS) : ES := fun ρ m => (A ρ m).bind fun ds m1 => if ds.length + 1 = n then (match G (.cell m1.length :: ds) (m1 ++ [.ins C [] []]) with
  | .ok d m2 => if isNonD d then .ok (.cell m1.length) m2 else .no
  | .exc c ns vs m2 => .exc c ns vs m2
  | .no => .no) else .no
section
variable {X : Cx} {T : List (Addr × Str)} {W : WX} {e o : Expr} {es : List Expr} {A : LS} {tA : TA} {Fo : ES} {pos apos p : Pos} {k n : Nat} {f C : Addr} {fd : FuncData} {ps : List Str} {x mn : Str} {G : FS}
theorem meth_D (tk : Takes X W) (ho : DE X T W o Fo) (hA : ∀ σ H Q, tG (RepL X.K) T X.K W A σ H Q → tA σ H Q) : ∀ σ H Q, tG (Rep X.K) T X.K W (eMeth C mn n G Fo A) σ H Q → tMethD C mn (spD X.K T n G) (fun σ => WE W σ) (tG (Rep X.K) T X.K W Fo) tA σ H Q :=
  fun σ H Q ⟨μ, ρ, m, er, s, q⟩ => tG_mk er s (q.bind fun d m1 μ1 H1 v x1 s1 r1 q1 => by
    split at q1
    · rename_i ns vs hi
      obtain ⟨j, a, cl, dx, xs, rfl, ea, rfl, hcs, hm, eh, hl, rl⟩ := insOf_rep s1 r1 hi
      cases List.mem_singleton.mp hcs
      split at q1
      · rename_i hn
        have hn' : lookF ns vs mn = none := by simpa using hn
        refine ⟨a, dx, _, rfl, eh, (lookF_rep rl hl).2 hn', hA _ _ _ (tG_mk (er.ext x1) s1 (q1.bind fun ds m2 μ2 H2 ys x2 s2 r2 q2 => ?_))⟩
        split at q2
        · rename_i hlen
          exact spD_post (ds := .cell j :: ds) (by rw [List.length_cons]; exact hlen) (.cons (r1.ext x2) r2) s2 q2
        · exact q2.elim
      · exact q1.elim
    · exact q1.elim)
theorem de_meth {pl : Sem Bool} (tk : Takes X W) (c : Cls X.K C) (hm : Meth X.K C mn f) (F : FnG X.prog X.w X.K X.mg X.base (L2.CX X.prog X.w) k f fd ps (spD X.K T n G)) (hr : RmG k X.A) (hb : Binds X.K fd ps []) (ho : DE X T W o Fo) (hA : DA X T W (e :: es) A)
    (hst : starEach (e :: es) X.env = (false, eval e X.env) :: starEach es X.env := by rfl) (hpl : (backTo pos (starEach es X.env)).any (·.1) = false := by rfl)
    (ht : eval (.Call (.Attribute o mn apos) (e :: es) [] pos) X.env = (do
      let ov ← eval o X.env
      standAt apos.atName
      let (f, first) ← holding [ov] (getMethod ov mn pl)
      callWith pos f first (backTo pos (starEach (e :: es) X.env)) (backToKw pos (keywordEach [] X.env))) := by rfl) : DE X T W (.Call (.Attribute o mn apos) (e :: es) [] pos) (eMeth C mn n G Fo A) :=
  ⟨(pe_methD (E := fun σ => WE W σ) ho.run c hm F hr hb (fun σ => passAt tk σ) hA.run hst hpl ht).weak (meth_D tk ho fun _ _ _ h => h)⟩
theorem de_meth0 {pl : Sem Bool} (tk : Takes X W) (c : Cls X.K C) (hm : Meth X.K C mn f) (F : FnG X.prog X.w X.K X.mg X.base (L2.CX X.prog X.w) k f fd ps (spD X.K T n G)) (hr : RmG k X.A) (hb : Binds X.K fd ps []) (ho : DE X T W o Fo)
    (ht : eval (.Call (.Attribute o mn apos) [] [] pos) X.env = (do
      let ov ← eval o X.env
      standAt apos.atName
      let (f, first) ← holding [ov] (getMethod ov mn pl)
      callWith pos f first (backTo pos (starEach [] X.env)) (backToKw pos (keywordEach [] X.env))) := by rfl) : DE X T W (.Call (.Attribute o mn apos) [] [] pos) (eMeth C mn n G Fo aNil) :=
  ⟨(pe_methD0 (E := fun σ => WE W σ) ho.run c hm F hr hb (fun σ => passAt tk σ) ht).weak (meth_D tk ho fun σ H Q ⟨μ, ρ, m, er, s, q⟩ => post_here (rp := RepL X.K) (a := []) s rfl q)⟩
/-! ### making -/
theorem make_guards {A : Around} {C : Addr} {us : List Value} {kw : List (Str × Value)} (h : A.guards = some []) : (A.under (.builtin "type.__call__" ⟨.ref C :: us, kw⟩)).guards = some [] := by
  have e : (Code.builtin "type.__call__" ⟨.ref C :: us, kw⟩).guards = [] := by
    first | rfl | simp [Code.guards, Code.weight, Code.isCreation, Code.isGuard, Code.isCaller, Code.frames, Code.isFrame, guardIds]
  unfold Around.under
  simp only [e, h]
  rfl
theorem RmG.make {k : Nat} {A : Around} (h : RmG (k + 1) A) (C : Addr) (us : List Value) (kw : List (Str × Value)) : RmG k (A.under (.builtin "type.__call__" ⟨.ref C :: us, kw⟩)) := ⟨h.r.make C us kw, make_guards h.g⟩
theorem run_makeD {pins : List (Addr × Obj)} {σ : L2.St} {H : Hp} {s : Shared} {Q : VK} {us : List Value} {vs : List V} {sp : Sp} {E : L2.St → XK} {CX : CXT} (M : L2.Mk X.K C f) (F : FnG X.prog X.w X.K X.mg X.base CX k f fd ps sp) (hr : RmG (k + 1) X.A) (hb : Binds X.K fd ps [])
    (hx : PassesAt CX X σ (E σ)) (I : Inv X pins σ H s) (r : Vals vs us) (h : ∀ x dx, H x = none → H dx = none → dx ≠ x → sp (.ref x :: vs) (upd (upd H dx (.own x)) x (.ins C dx [])) (fun v H2 => v = .non ∧ Q (.ref x) H2) (E σ)) :
    wpAny (model X.prog X.w) X.A (call (.ref C) us) (EP X pins σ Q) X.xe s := by
  generalize hz : s.heap.objs.size = z at *
  have hq := h (z + 1) z (I.hok.fresh (by rw [hz]; exact Nat.le_succ _)) (I.hok.fresh (by rw [hz]; exact Nat.le_refl _)) (Nat.ne_of_lt (Nat.lt_succ_self _))
  subst hz
  have J := Inv.made (C := C) I
  have rr : Vals (V.ref (s.heap.objs.size + 1) :: vs) (Value.ref (s.heap.objs.size + 1) :: us) := .cons rfl r
  have hl : (Value.ref (s.heap.objs.size + 1) :: us ++ []).length = ps.length := by
    rw [List.append_nil, ← rr.length]
    exact F.len _ _ _ _ hq
  have run := F.run _ X.stack _ _ ⟨Value.ref (s.heap.objs.size + 1) :: us, []⟩ (Value.ref (s.heap.objs.size + 1) :: us) _ _ (E σ) (hr.make C us []) (J.env0.make C us [])
    (by have := hb _ (Value.ref (s.heap.objs.size + 1) :: us) J.kIn hl; rwa [List.append_nil] at this) rr hq
  refine wpAny_call (make_map (f := f) I.kIn M.makes M.init (beq_iff_eq.mp M.fn) (codeAny_mono run fun res s' hq' => ?_))
  match res with
  | .error e => exact hx pins _ _ e s' J hq'
  | .ok (.ret u) =>
    obtain ⟨v, H', I3, rv, rfl, q3⟩ := J.after hq'
    exact ⟨rv, .ref (s.heap.objs.size + 1), H', I3, rfl, q3⟩
  | .ok .next => exact False.elim hq'
  | .ok .brk => exact False.elim hq'
  | .ok .cont => exact False.elim hq'
def tMakeD (C : Addr) (sp : Sp) (E : L2.St → XK) (t : TA) : TE := fun σ H Q => t σ H fun vs H1 => ∀ x dx, H1 x = none → H1 dx = none → dx ≠ x → sp (.ref x :: vs) (upd (upd H1 dx (.own x)) x (.ins C dx [])) (fun v H2 => v = .non ∧ Q (.ref x) H2) (E σ)
theorem pe_makeD {sp : Sp} {E : L2.St → XK} {CX : CXT} {t : TA} (M : L2.Mk X.K C f) (F : FnG X.prog X.w X.K X.mg X.base CX k f fd ps sp) (hr : RmG (k + 1) X.A) (hg : Gl X x) (hm : X.mg x = some (.ref C)) (hb : Binds X.K fd ps []) (hx : ∀ σ, PassesAt CX X σ (E σ))
    (ha : PA X (e :: es) t) (hdb : (x == ("__debug__" : Str)) = false) (he : starEach (e :: es) X.env = (false, eval e X.env) :: starEach es X.env) (hpl : (backTo pos (starEach es X.env)).any (·.1) = false) :
    PE X (.Call (.Name x p) (e :: es) [] pos) (tMakeD C sp E t) := ⟨fun pins s σ H Q I h => by
  refine wpAny_Call_Name_kw (ld_glob I hg hm (PySem.W.callWith_K (h₀ := X.base) I.ok.mod.kin M.kp (thn (ha.run pos pins s σ H _ I h) fun us s1 hh => ?_) he hpl) hdb)
  obtain ⟨vs, H1, I1, r, q⟩ := hh
  exact ⟨I1.kIn, run_makeD M F hr hb (hx σ) I1 r q⟩⟩
theorem pe_makeD0 {sp : Sp} {E : L2.St → XK} {CX : CXT} (M : L2.Mk X.K C f) (F : FnG X.prog X.w X.K X.mg X.base CX k f fd ps sp) (hr : RmG (k + 1) X.A) (hg : Gl X x) (hm : X.mg x = some (.ref C)) (hb : Binds X.K fd ps []) (hx : ∀ σ, PassesAt CX X σ (E σ))
    (hdb : (x == ("__debug__" : Str)) = false) : PE X (.Call (.Name x p) [] [] pos) (tMakeD C sp E tNil) := ⟨fun pins s σ H Q I h =>
  wpAny_Call_Name_kw (ld_glob I hg hm (PySem.W.callWith_K0 I.kIn M.kp (run_makeD (us := []) M F hr hb (hx σ) I .nil h)) hdb)⟩
theorem make_D (hA : ∀ σ H Q, tG (RepL X.K) T X.K W A σ H Q → tA σ H Q) : ∀ σ H Q, tG (Rep X.K) T X.K W (eMake C n G A) σ H Q → tMakeD C (spD X.K T n G) (fun σ => WE W σ) tA σ H Q :=
  fun σ H Q ⟨μ, ρ, m, er, s, q⟩ => hA _ _ _ (tG_mk er s (q.bind fun ds m1 μ1 H1 vs x1 s1 r1 q1 => by
    split at q1
    · rename_i hlen
      intro x dx hx hdx hne
      have hx' : (upd H1 dx (.own x)) x = none := by rw [upd_ne (fun z => hne z.symm)]; exact hx
      have xa : Ext μ1 H1 μ1 (upd H1 dx (.own x)) := .new hdx
      have xb : Ext μ1 (upd H1 dx (.own x)) (μ1 ++ [x]) (upd (upd H1 dx (.own x)) x (.ins C dx [])) := .cell hx'
      have sb : Sto T X.K (μ1 ++ [x]) (upd (upd H1 dx (.own x)) x (.ins C dx [])) (m1 ++ [.ins C [] []]) := (s1.new hdx).cell hx' ⟨dx, [], upd_same, rfl, rfl⟩
      have hat : (μ1 ++ [x])[m1.length]? = some x := by rw [← s1.len]; simp
      refine spD_post (ds := .cell m1.length :: ds) (by rw [List.length_cons]; exact hlen) (.cons ⟨x, hat, rfl⟩ (r1.ext (xa.trans xb))) sb ?_
      cases hg : G (.cell m1.length :: ds) (m1 ++ [.ins C [] []]) with
      | ok d m2 =>
        rw [hg] at q1
        intro μ' H' v xc sc rv
        dsimp only at q1
        split at q1
        · rename_i hd
          obtain ⟨t, ht⟩ := xc.pre
          refine ⟨isNonD_rep hd rv, q1 μ' H' (.ref x) ((xa.trans xb).trans xc) sc ⟨x, ?_, rfl⟩⟩
          rw [← ht, List.getElem?_append_left (List.getElem?_eq_some_iff.mp hat).1]
          exact hat
        · exact q1.elim
      | exc c ns ws m2 =>
        rw [hg] at q1
        exact fun μ' H' od xc sc xr => q1 μ' H' od ((xa.trans xb).trans xc) sc xr
      | no => rw [hg] at q1; exact q1.elim
    · exact q1.elim))
theorem de_make (tk : Takes X W) (M : L2.Mk X.K C f) (F : FnG X.prog X.w X.K X.mg X.base (L2.CX X.prog X.w) k f fd ps (spD X.K T n G)) (hr : RmG (k + 1) X.A) (hm : X.mg x = some (.ref C)) (hb : Binds X.K fd ps []) (hA : DA X T W (e :: es) A)
    (hg : Gl X x := by rfl) (hdb : (x == ("__debug__" : Str)) = false := by decide) (he : starEach (e :: es) X.env = (false, eval e X.env) :: starEach es X.env := by rfl) (hpl : (backTo pos (starEach es X.env)).any (·.1) = false := by rfl) :
    DE X T W (.Call (.Name x p) (e :: es) [] pos) (eMake C n G A) :=
  ⟨(pe_makeD (E := fun σ => WE W σ) M F hr hg hm hb (fun σ => passAt tk σ) hA.run hdb he hpl).weak (make_D fun _ _ _ h => h)⟩
theorem de_make0 (tk : Takes X W) (M : L2.Mk X.K C f) (F : FnG X.prog X.w X.K X.mg X.base (L2.CX X.prog X.w) k f fd ps (spD X.K T n G)) (hr : RmG (k + 1) X.A) (hm : X.mg x = some (.ref C)) (hb : Binds X.K fd ps [])
    (hg : Gl X x := by rfl) (hdb : (x == ("__debug__" : Str)) = false := by decide) : DE X T W (.Call (.Name x p) [] [] pos) (eMake C n G aNil) :=
  ⟨(pe_makeD0 (E := fun σ => WE W σ) M F hr hg hm hb (fun σ => passAt tk σ) hdb).weak (make_D fun σ H Q ⟨μ, ρ, m, er, s, q⟩ => post_here (rp := RepL X.K) (a := []) s rfl q)⟩
end
end DL


/-! DM3: repr of lists and tuples, split, extend, f-strings, replace of the first. -/
namespace DL
open PySem PySem.Spec L2
open PyProof.Rows hiding St pairD intD cutD
/-! ### repr(x) -/
def reprOk (x : PyData) : Bool := x.showable && !x.hasDict && decide (x.depth ≤ 60) && decide (x.shown.length ≤ 16777216)
def isObj : D → Bool
  | .tup _ => true
  | .lst _ => true
  | .cell _ => true
  | _ => false
def reprD : List D → List C → R D := fun ds m => match ds with
  | [d] => if isObj d then (match dataOf m d with
    | some x => if reprOk x then .ok (.str x.shown) m else .no
    | none => .no) else .no
  | _ => .no
def rRepr (K : PySem.W.Frag) : List V → Hp → VK → Prop := fun xs H Q => ∃ a d, xs = [.ref a] ∧ Dp K H (.ref a) d ∧ reprOk d = true ∧ Q (.str d.shown) H
section
variable {X : Cx} {T : List (Addr × Str)} {W : WX}
theorem call_reprG (hg : X.A.guards = some []) (hu : X.A.units + 64 < cLine) : CallR X (.builtin "repr") (rRepr X.K) := by
  intro pins s σ H xs us Q I rs h
  obtain ⟨a, d, rfl, hd, ho, q⟩ := h
  obtain ⟨u, rfl, ru⟩ := rs.one
  cases ru
  obtain ⟨as, hr⟩ := Dp.reads I d (.ref a) (.ref a) hd rfl
  unfold reprOk at ho
  simp only [Bool.and_eq_true, decide_eq_true_eq, Bool.not_eq_true'] at ho
  obtain ⟨⟨⟨h1, h2⟩, h3⟩, h4⟩ := ho
  refine repr_of_reads' hr h1 (fun z => by rw [h2] at z; cases z) hg (by omega) (fun _ _ e => e) (fun h' u tk hk => ⟨.str d.shown, H, I.kept (t' := tk) hk, ⟨u, rfl⟩, q⟩) ?_
  rw [sizeLine_eq]
  exact h4
theorem reprD_ok : ArD X T reprD (rRepr X.K) := by
  intro W σ μ H m ds xs Q S rs q
  unfold reprD at q
  split at q
  · rename_i d
    obtain ⟨v, rfl, r⟩ := repL1 rs
    split at q
    · rename_i ho
      split at q
      · rename_i x hx
        split at q
        · rename_i hk
          have hv : ∃ a, v = .ref a := by
            cases d with
            | tup l => obtain ⟨a, _, e, _⟩ := r; exact ⟨a, e⟩
            | lst l => obtain ⟨a, _, e, _⟩ := r; exact ⟨a, e⟩
            | cell n => obtain ⟨a, _, e⟩ := r; exact ⟨a, e⟩
            | _ => cases ho
          obtain ⟨a, rfl⟩ := hv
          exact ⟨a, x, rfl, dataOf_dp S r hx, hk, post_here (a := D.str _) S rfl q⟩
        · exact q.elim
      · exact q.elim
    · exact q.elim
  · exact q.elim
/-! ### x.split(y) -/
def splitD : D → List D → List C → R D := fun d ds m => match d, ds with
  | .str a, [.str b] => if (!(b.length == 0)) && fits (a.length + 2) then .ok (.lst ((Txt.split a b).map .str)) m else .no
  | _, _ => .no
theorem strs_repL {K : PySem.W.Frag} {μ : List Addr} {H : Hp} : ∀ l : List Str, RepL K μ H (l.map D.str) (l.map V.str)
  | [] => rfl
  | x :: l => ⟨_, _, rfl, rfl, strs_repL l⟩
theorem splitD_ok : MtD X T splitD (fun x xs H Q => ∃ a b, x = .str a ∧ xs = [.str b] ∧ (b.length == 0) = false ∧ a.length + 2 ≤ sizeLine ∧ rNewStrs (Txt.split a b) H (FQ Q)) := by
  intro W σ μ H m d ds x xs Q S r rs q
  unfold splitD at q
  split at q
  · cases r
    obtain ⟨v, rfl, r1⟩ := repL1 rs
    cases r1
    split at q
    · rename_i h
      rw [Bool.and_eq_true, Bool.not_eq_true'] at h
      exact ⟨_, _, rfl, rfl, h.1, fits_iff.mp h.2, post_newL S (strs_repL _) q⟩
    · exact q.elim
  · exact q.elim
/-! ### l.extend(k) of cells -/
def extendD : D → List D → List C → R D := fun d ds m => match d, ds with
  | .cell n, [.cell k] => (match m[n]?, m[k]? with
    | some (.lst l), some (.lst z) => if fits (l.length + z.length) then .ok .non (m.set n (.lst (l ++ z))) else .no
    | _, _ => .no)
  | _, _ => .no
theorem extendD_ok : MtD X T extendD rExtend := by
  intro W σ μ H m d ds x xs Q S r rs q
  unfold extendD at q
  split at q
  · rename_i n k
    obtain ⟨a, ea, rfl⟩ := r
    obtain ⟨v, rfl, b, eb, rfl⟩ := repL1 rs
    split at q
    · rename_i l z hm hk
      split at q
      · rename_i hf
        obtain ⟨ys, ex, rl⟩ := S.rep n _ a hm ea
        obtain ⟨zs, ez, rz⟩ := S.rep k _ b hk eb
        have hc : Celled (H a) := by rw [ex]; trivial
        obtain ⟨x1, s1⟩ := Post.cellL S ea hc (rl.append rz)
        refine ⟨a, b, ys, zs, rfl, rfl, ex, ez, ?_, q μ _ .non x1 s1 rfl⟩
        rw [← rl.length, ← rz.length]
        exact fits_iff.mp hf
      · exact q.elim
    · exact q.elim
  · exact q.elim
/-! ### int(text) -/
def intTD : List D → List C → R D := fun ds m => match ds with
  | [.str a] => (match PySem.intText? a with
    | some n => if decide (a.length ≤ 640) then .ok (.int n) m else .no
    | none => .no)
  | _ => .no
theorem intTD_ok : ArD X T intTD (fun xs H Q => ∃ a n, xs = [.str a] ∧ PySem.intText? a = some n ∧ a.length ≤ 640 ∧ Q (.int n) H) := by
  intro W σ μ H m ds xs Q S rs q
  unfold intTD at q
  split at q
  · obtain ⟨v, rfl, r⟩ := repL1 rs
    cases r
    split at q
    · rename_i n hn
      split at q
      · rename_i h
        exact ⟨_, n, rfl, hn, of_decide_eq_true h, post_here (a := D.int _) S rfl q⟩
      · exact q.elim
    · exact q.elim
  · exact q.elim
/-! ### f'..' -/
def fmtR (d : D) (m : List C) : R D := match d with
  | .str y => if fits y.length then .ok (.str y) m else .no
  | .int i => if decide (i.natAbs.log2 < 1920) then .ok (.str (toString i)) m else .no
  | _ => .no
def eFmt (F : ES) : ES := fun ρ m => (F ρ m).bind fmtR
theorem de_fmt {e : Expr} {F : ES} {pos : Pos} (h : DE X T W e F) : DE X T W (.FormattedValue e (-1) none pos) (eFmt F) := ⟨(pe_fmt h.run).weak fun σ H Q ⟨μ, ρ, m, er, s, q⟩ => tG_mk er s (q.bind fun d m1 μ1 H1 x x1 s1 r1 q1 => by
  unfold fmtR at q1
  split at q1
  · cases r1
    split at q1
    · rename_i hf
      exact .inl ⟨_, rfl, fits_iff.mp hf, post_here (a := D.str _) s1 rfl q1⟩
    · exact q1.elim
  · cases r1
    split at q1
    · rename_i hf
      exact .inr ⟨_, rfl, of_decide_eq_true hf, post_here (a := D.str _) s1 rfl q1⟩
    · exact q1.elim
  · exact q1.elim)⟩
def jS : List ES → Str → ES
  | [], acc => fun _ m => .ok (.str acc) m
  | F :: Fs, acc => fun ρ m => (F ρ m).bind fun d m1 => match d with
    | .str y => if fits (acc ++ y).length then jS Fs (acc ++ y) ρ m1 else .no
    | _ => .no
inductive DJ (X : Cx) (T : List (Addr × Str)) (W : WX) : List Expr → List ES → Prop where
  | nil : DJ X T W [] []
  | cons {e : Expr} {F : ES} {es : List Expr} {Fs : List ES} (h : DE X T W e F) (r : DJ X T W es Fs) : DJ X T W (e :: es) (F :: Fs)
theorem DJ.pj {es : List Expr} {Fs : List ES} (h : DJ X T W es Fs) : PJ X es (Fs.map (tG (Rep X.K) T X.K W)) := by
  induction h with
  | nil => exact .nil
  | cons h r ih => exact .cons h.run ih
theorem jS_run : ∀ (Fs : List ES) (acc : Str) (σ : L2.St) (H : Hp) (Q : VK), tG (Rep X.K) T X.K W (jS Fs acc) σ H Q → tJs (Fs.map (tG (Rep X.K) T X.K W)) acc σ H fun out H1 => Q (.str out) H1
  | [], acc, σ, H, Q, ⟨μ, ρ, m, er, s, q⟩ => post_here (a := D.str acc) s rfl q
  | F :: Fs, acc, σ, H, Q, ⟨μ, ρ, m, er, s, q⟩ => tG_mk er s (q.bind fun d m1 μ1 H1 x x1 s1 r1 q1 => by
    split at q1
    · cases r1
      split at q1
      · rename_i y hf
        exact ⟨y, rfl, fits_iff.mp hf, jS_run Fs (acc ++ y) σ H1 Q (tG_mk (er.ext x1) s1 q1)⟩
      · exact q1.elim
    · exact q1.elim)
theorem de_joined {v1 v2 : Expr} {rest : List Expr} {Fs : List ES} {pos : Pos} (h : DJ X T W (v1 :: v2 :: rest) Fs) : DE X T W (.JoinedStr (v1 :: v2 :: rest) pos) (jS Fs Str.empty) := ⟨(pe_joined h.pj).weak (jS_run Fs Str.empty)⟩
end
end DL


/-! DM4: tokens that are out, carried through a def's body; replace of the first. -/
namespace DL
open PySem PySem.Spec L2
open PyProof.Rows hiding St pairD intD cutD
/-- n tokens are out before, k behind -/
def PEx (X : Cx) (n k : Nat) (e : Expr) (t : TE) : Prop := ∀ (pins : List (Addr × Obj)) (s : Shared) (σ : L2.St) (H : Hp) (Q : VK), n ≤ s.toks → Inv X pins σ H s → t σ H Q →
  wpAny (model X.prog X.w) X.A (eval e X.env) (fun v s1 => k ≤ s1.toks ∧ EP X pins σ Q v s1) X.xe s
def PAx (X : Cx) (n k : Nat) (es : List Expr) (t : TA) : Prop := ∀ (pos : Pos) (pins : List (Addr × Obj)) (s : Shared) (σ : L2.St) (H : Hp) (Q : List V → Hp → Prop), n ≤ s.toks → Inv X pins σ H s → t σ H Q →
  wpAny (model X.prog X.w) X.A (spliced (backTo pos (starEach es X.env))) (fun vs s1 => k ≤ s1.toks ∧ AP X pins σ Q vs s1) X.xe s
def PSx (X : Cx) (n k : Nat) (st : Stmt) (t : TS) : Prop := ∀ (pins : List (Addr × Obj)) (s : Shared) (σ : L2.St) (H : Hp) (Z : Ends), n ≤ s.toks → Inv X pins σ H s → t Z σ H →
  wpAny (model X.prog X.w) X.A (exec st X.env) (fun f s1 => k ≤ s1.toks ∧ SP X pins Z f s1) X.xe s
def PSsx (X : Cx) (n : Nat) (sts : List Stmt) (t : TS) : Prop := ∀ (pins : List (Addr × Obj)) (s : Shared) (σ : L2.St) (H : Hp) (Z : Ends), n ≤ s.toks → Inv X pins σ H s → t Z σ H →
  wpAny (model X.prog X.w) X.A (execs sts X.env) (SP X pins Z) X.xe s
theorem tok_up {α : Type} {M : Model} {A : Around} {t : Sem α} {Q : α → Shared → Prop} {E : Value → Shared → Prop} {s : Shared} {k : Nat} (hk : k ≤ s.toks) (h : wpAny M A t Q E s) : wpAny M A t (fun a s' => k ≤ s'.toks ∧ Q a s') E s :=
  wpAny_mono (PySem.wpAny_toks_of hk h) (fun _ _ z => z) fun _ _ z => z.2
section
variable {X : Cx} {n j k : Nat} {e f o : Expr} {es : List Expr} {te tf to : TE} {ta : TA} {pos : Pos}
theorem pex_of (h : PE X e te) : PEx X n n e te := fun pins s σ H Q h0 I q => tok_up h0 (h.run pins s σ H Q I q)
theorem pax_of (h : PA X es ta) : PAx X n n es ta := fun pos pins s σ H Q h0 I q => tok_up h0 (h.run pos pins s σ H Q I q)
theorem pax_le (h : PAx X n k es ta) (hj : j ≤ k) : PAx X n j es ta := fun pos pins s σ H Q h0 I q => thn (h pos pins s σ H Q h0 I q) fun _ _ z => ⟨Nat.le_trans hj z.1, z.2⟩
theorem pex_weak {t' : TE} (h : PEx X n k e te) (w : ∀ σ H Q, t' σ H Q → te σ H Q) : PEx X n k e t' := fun pins s σ H Q h0 I q => h pins s σ H Q h0 I (w σ H Q q)
theorem pax_weak {t' : TA} (h : PAx X n k es ta) (w : ∀ σ H Q, t' σ H Q → ta σ H Q) : PAx X n k es t' := fun pos pins s σ H Q h0 I q => h pos pins s σ H Q h0 I (w σ H Q q)
theorem pex_str {x : Str} {i : Nat} : PEx X n 1 (.Constant (.str x) i pos) (tC (.str x)) := fun pins s σ H Q _ I q => Calls.Constant_str ⟨by show 1 ≤ s.toks + 1; omega, .str x, H, I.tok _, ⟨_, rfl⟩, q⟩
theorem pex_op {op : Operator} {r : R2} (ho : OpR X (binaryOp op) r) (ha : PEx X n j e te) (hb : PEx X j k f tf) : PEx X n k (.BinOp e op f pos) (tOp r te tf) := by
  intro pins s σ H Q h0 I h
  refine wpAny_BinOp (thn (ha pins s σ H _ h0 I h) fun v s1 q => ?_)
  obtain ⟨hj, x, H1, I1, r1, q1⟩ := q
  refine thn (hb pins s1 σ H1 _ hj I1 q1) fun u s2 q2 => ?_
  obtain ⟨hk, y, H2, I2, r2, q2⟩ := q2
  exact tok_up hk (ho pins s2 σ H2 x y v u Q I2 r1 r2 q2)
theorem pax_cons (ha : PEx X n j e te) (hr : PAx X j k es ta) (hs : starEach (e :: es) X.env = (false, eval e X.env) :: starEach es X.env := by rfl) : PAx X n k (e :: es) (tCons te ta) := by
  intro pos pins s σ H Q h0 I h
  rw [hs]
  show wpAny _ _ (spliced ((false, eval e X.env) :: backTo pos (starEach es X.env))) _ _ s
  refine Calls.spliced_cons (thn (ha pins s σ H _ h0 I h) fun v s1 q => ?_)
  obtain ⟨hj, x, H1, I1, r1, q1⟩ := q
  exact thn (hr pos pins s1 σ H1 _ hj I1 q1) fun us s2 ⟨hk, xs, H2, I2, r2, q2⟩ => ⟨hk, x :: xs, H2, I2, .cons r1 r2, q2⟩
theorem pex_lst (h : PAx X n k es ta) : PEx X n k (.List es pos) (tLst ta) := by
  intro pins s σ H Q h0 I hq
  refine wpAny_List_spliced (thn (h pos pins s σ H _ h0 I hq) fun us s1 q => ?_)
  obtain ⟨hk, xs, H1, I1, r, z, q⟩ := q
  refine ⟨by rw [← r.length]; exact z, hk, ?_⟩
  have hn : H1 s1.heap.objs.size = none := I1.hok.fresh (Nat.le_refl _)
  exact ⟨.ref s1.heap.objs.size, upd H1 s1.heap.objs.size (.lst xs), I1.laid (t' := s1.toks) (fun b u e => Heap.get?_push_of_some _ e) (Nat.le_refl _) ⟨z, us, 0, r, Heap.get?_push_size _ rfl⟩, rfl, q _ hn⟩
theorem pex_frz (h : PEx X n k e te) : PEx X n k e (fun σ H Q => te σ H (FQ Q)) := fun pins s σ H Q h0 I q => thn (h pins s σ H _ h0 I q) fun _ _ z => ⟨z.1, ep_frz z.2⟩
theorem pex_mt {t id : String} {r : V → List V → Hp → VK → Prop} {name : Str} {apos cpos : Pos} (pa : PlainAttrs t) (slot : Slot t name id) (hty : typeOf (.builtin id) = pure (.type "method_descriptor")) (hm : MtR X id r) (ho : PEx X n j o to) (ha : PAx X j k (e :: es) ta)
    (hbase : attributeBase o name X.env (eval o X.env) = eval o X.env)
    (hfew : ((backTo cpos (starEach (e :: es) X.env)).all (fun x => !x.1) && (backToKw cpos (keywordEach [] X.env)).all (fun x => x.1.isSome)
      && decide ((e :: es).length + ([] : List Keyword).length + (if ([] : List Keyword).isEmpty then 0 else 1) < 30)) = true)
    (hline : (apos.endLine == cpos.line) = true) (hs : starEach (e :: es) X.env = (false, eval e X.env) :: starEach es X.env) (hplain : (backTo cpos (starEach es X.env)).any (·.1) = false) :
    PEx X n k (.Call (.Attribute o name apos) (e :: es) [] cpos) (tMt X.K t r to ta) := by
  intro pins s σ H Q h0 I h
  refine wpAny_Call_method_late hbase hfew hline rfl (thn (ho pins s σ H _ h0 I h) fun v s1 q => ?_)
  obtain ⟨hj, x, H1, I1, r1, ty, q1⟩ := q
  obtain ⟨h1, h2⟩ := tyM_is I1 r1 ty
  refine ⟨t, id, pa, slot, hty, h1, h2, ?_⟩
  have hA := ha cpos pins s1 σ H1 _ hj I1 q1
  rw [hs] at hA ⊢
  refine Calls.callWith_builtin (by show (false || (backTo cpos (starEach es X.env)).any (·.1)) = false; rw [hplain] <;> rfl) (Calls.evalArgs_plain ?_)
  refine thn hA fun us s2 q2 => ?_
  obtain ⟨hk, vs, H2, I2, r2, q2⟩ := q2
  exact tok_up hk (hm pins s2 σ H2 x vs v us Q I2 r1 r2 q2)
theorem pex_callG {CX : CXT} {kk : Nat} {a : Addr} {fd : FuncData} {ps : List Str} {sp : Sp} {E : L2.St → XK} {x : Str} {p : Pos} (F : FnG X.prog X.w X.K X.mg X.base CX kk a fd ps sp) (hr : RmG kk X.A) (hg : Gl X x) (hm : X.mg x = some (.ref a)) (hk : PySem.W.keepIn X.K (.ref a) = true) (hb : Binds X.K fd ps []) (hx : ∀ σ, PassesAt CX X σ (E σ))
    (ha : PAx X n k (e :: es) ta) (hdb : (x == ("__debug__" : Str)) = false) (he : starEach (e :: es) X.env = (false, eval e X.env) :: starEach es X.env) (hpl : (backTo pos (starEach es X.env)).any (·.1) = false) :
    PEx X n k (.Call (.Name x p) (e :: es) [] pos) (tCallG sp E ta) := by
  intro pins s σ H Q h0 I h
  refine wpAny_Call_Name_kw (ld_glob I hg hm (PySem.W.callWith_K (h₀ := X.base) I.ok.mod.kin hk (thn (ha pos pins s σ H _ h0 I h) fun us s1 hh => ?_) he hpl) hdb)
  obtain ⟨ht, vs, H1, I1, r, q⟩ := hh
  exact ⟨I1.kIn, tok_up ht (run_fnG F hr hb (hx σ) I1 r q)⟩
/-! statements -/
variable {st : Stmt} {sts : List Stmt} {t u : TS}
theorem psx_of (h : L2.PS X st t) : PSx X n n st t := fun pins s σ H Z h0 I q => tok_up h0 (h.run pins s σ H Z I q)
theorem pssx_of (h : L2.PSs X sts t) : PSsx X n sts t := fun pins s σ H Z _ I q => h.run pins s σ H Z I q
theorem pssx_cons (h1 : PSx X n k st t) (h2 : PSsx X k sts u) : PSsx X n (st :: sts) (tSeq t u) := by
  intro pins s σ H Z h0 I h
  refine wpAny_execs_cons (thn (h1 pins s σ H { Z with nx := u Z } h0 I h) fun f s1 q => ?_)
  obtain ⟨hk, q⟩ := q
  cases f with
  | next =>
    obtain ⟨σ', H', I', q⟩ := q
    exact h2 pins s1 σ' H' Z hk I' q
  | ret v => exact q
  | brk => exact q
  | cont => exact q
theorem psx_expr (he : PEx X n k e te) (hs : swapsWith e none pos.line X.env = pure false) : PSx X n k (.Expr e pos) (tDrop te) := fun pins s σ H Z h0 I h =>
  wpAny_Expr_any (thn (he pins s σ H _ h0 I h) fun v s1 ⟨hk, x, H1, I1, r1, q1⟩ => ⟨hk, σ, H1, I1, q1⟩) I.quiet hs
theorem psx_ret (he : PEx X n k e te) : PSx X n k (.Return (some e) pos) (tRet te) := fun pins s σ H Z h0 I h =>
  wpAny_Return_some (thn (he pins s σ H _ h0 I h) fun v s1 ⟨hk, x, H1, I1, r1, q1⟩ => ⟨hk, x, σ, H1, I1, r1, q1⟩)
end
/-! ### x.replace(y, z, 1) of written texts -/
def rep1 (x y z : Str) : Str :=
  if ((Builtin.Str.occurrences x y 0 x.length 1).isEmpty || (y.length == 0 && z.length == 0)) = true then x
  else Builtin.Str.glued z (Builtin.Str.partsBetween x (Builtin.Str.occurrences x y 0 x.length 1) y.length)
open PySem.Builtin PySem.Builtin.Str in
theorem gives_rep1 (x y z : Str) (t u v c : Tok) (hu : (u == 0 || v == 0) = false) (huv : (u == v) = false) (hyz : (y == z) = false) (hl : x.length + z.length ≤ 16777216) :
    Gives («str.replace» ⟨[.str x t, .str y u, .str z v, .int 1 c], []⟩) (if ((Builtin.Str.occurrences x y 0 x.length 1).isEmpty || (y.length == 0 && z.length == 0)) = true then .val (.str x t)
      else .str (Builtin.Str.glued z (Builtin.Str.partsBetween x (Builtin.Str.occurrences x y 0 x.length 1) y.length))) := by
  have h1 : tooLong (x.length + (Builtin.Str.occurrences x y 0 x.length 1).length * z.length) = false := by
    have h2 := StrLaws.occ_length_le x y 0 x.length 1
    have h3 : (Builtin.Str.occurrences x y 0 x.length 1).length * z.length ≤ 1 * z.length := Nat.mul_le_mul_right _ h2
    unfold tooLong sizeLine
    exact decide_eq_false (by omega)
  show Gives (if ((Builtin.Str.occurrences x y 0 x.length 1).isEmpty || (y.length == 0 && z.length == 0)) = true then (do rule "str.replace.nothing"; ret (.str x t)) else
    (do let same ← isSame (.str y u) (.str z v)
        if same = true then (do rule "str.replace.old-is-new"; ret (.str x t)) else
        if tooLong (x.length + (Builtin.Str.occurrences x y 0 x.length 1).length * z.length) = true then unsupported "str.replace:memory" else
        retStr (Builtin.Str.glued z (Builtin.Str.partsBetween x (Builtin.Str.occurrences x y 0 x.length 1) y.length)))) _
  cases hc : ((Builtin.Str.occurrences x y 0 x.length 1).isEmpty || (y.length == 0 && z.length == 0))
  · rw [isSame_str_other y z u v hu huv hyz, h1]
    exact .of_eq rfl
  · exact .rule (.of_eq rfl)
end DL


/-! DM5: the same over trees. -/
namespace DL
open PySem PySem.Spec L2
open PyProof.Rows hiding St pairD intD cutD
section
variable (X : Cx) (T : List (Addr × Str)) (W : WX) (n k : Nat)
structure DEx (e : Expr) (F : ES) : Prop where
  run : PEx X n k e (tG (Rep X.K) T X.K W F)
structure DAx (es : List Expr) (F : LS) : Prop where
  run : PAx X n k es (tG (RepL X.K) T X.K W F)
structure DSx (st : Stmt) (S : SS) : Prop where
  run : PSx X n k st (tS X.K T W S)
structure DSsx (sts : List Stmt) (S : SS) : Prop where
  run : PSsx X n sts (tS X.K T W S)
end
section
variable {X : Cx} {T : List (Addr × Str)} {W : WX} {n j k : Nat} {e o a b : Expr} {es : List Expr} {F Fa Fb : ES} {G : LS} {pos : Pos}
theorem dex_of (h : DE X T W e F) : DEx X T W n n e F := ⟨pex_of h.run⟩
theorem dax_of (h : DA X T W es G) : DAx X T W n n es G := ⟨pax_of h.run⟩
theorem dex_str {x : Str} {i : Nat} : DEx X T W n 1 (.Constant (.str x) i pos) (eC (.str x)) := ⟨pex_weak pex_str fun σ H Q ⟨μ, ρ, m, er, s, q⟩ => post_here (a := D.str x) s rfl q⟩
theorem dax_nil : DAx X T W n n [] aNil := dax_of da_nil
theorem dax_cons (ha : DEx X T W n j a Fa) (hb : DAx X T W j k es G) (hs : starEach (a :: es) X.env = (false, eval a X.env) :: starEach es X.env := by rfl) : DAx X T W n k (a :: es) (aCons Fa G) :=
  ⟨pax_weak (pax_cons ha.run hb.run hs) fun σ H Q ⟨μ, ρ, m, er, s, q⟩ => tG_mk er s (q.bind fun d m1 μ1 H1 x x1 s1 r1 q1 => tG_mk (er.ext x1) s1 (q1.bind fun l m2 μ2 H2 xs x2 s2 r2 q2 => post_here s2 (rp := RepL X.K) (a := d :: l) (RepL.cons (r1.ext x2) r2) q2))⟩
theorem tOp_Dx {f : D → D → List C → R D} {r : R2} (hf : OpD X T f r) : ∀ σ H Q, tG (Rep X.K) T X.K W (eBin f Fa Fb) σ H Q → tOp r (tG (Rep X.K) T X.K W Fa) (tG (Rep X.K) T X.K W Fb) σ H Q :=
  fun σ H Q ⟨μ, ρ, m, er, s, q⟩ => tG_mk er s (q.bind fun d1 m1 μ1 H1 x x1 s1 r1 q1 => tG_mk (er.ext x1) s1 (q1.bind fun d2 m2 μ2 H2 y x2 s2 r2 q2 => hf W σ μ2 H2 m2 d1 d2 x y Q s2 (r1.ext x2) r2 q2))
theorem dex_bin {f : D → D → List C → R D} {r : R2} {op : Operator} (ho : OpR X (binaryOp op) r) (hf : OpD X T f r) (ha : DEx X T W n j a Fa) (hb : DEx X T W j k b Fb) : DEx X T W n k (.BinOp a op b pos) (eBin f Fa Fb) := ⟨pex_weak (pex_op ho ha.run hb.run) (tOp_Dx hf)⟩
theorem dex_lst (h : DAx X T W n k es G) : DEx X T W n k (.List es pos) (eLst G) := ⟨pex_weak (pex_frz (pex_lst h.run)) fun σ H Q ⟨μ, ρ, m, er, s, q⟩ => tG_mk er s (q.bind fun l m1 μ1 H1 xs x1 s1 r1 q1 => by
  split at q1
  · rename_i hf
    exact ⟨by rw [← r1.length]; exact fits_iff.mp hf, post_newL s1 r1 q1⟩
  · exact q1.elim)⟩
theorem dex_lstC (h : DAx X T W n k es G) : DEx X T W n k (.List es pos) (eLstC G) := ⟨pex_weak (pex_lst h.run) fun σ H Q ⟨μ, ρ, m, er, s, q⟩ => tG_mk er s (q.bind fun l m1 μ1 H1 xs x1 s1 r1 q1 => by
  split at q1
  · rename_i hf
    exact ⟨by rw [← r1.length]; exact fits_iff.mp hf, post_newC s1 r1 q1⟩
  · exact q1.elim)⟩
theorem dex_mt {t id : String} {name : Str} {apos cpos : Pos} {r : V → List V → Hp → VK → Prop} {f : D → List D → List C → R D} (pa : PlainAttrs t) (slot : Slot t name id) (hty : typeOf (.builtin id) = pure (.type "method_descriptor")) (hm : MtR X id r) (hf : MtD X T f r) (ho : DEx X T W n j o F) (ha : DAx X T W j k (e :: es) G) (ht : t ∈ mtTypes := by decide)
    (hbase : attributeBase o name X.env (eval o X.env) = eval o X.env := by rfl)
    (hfew : ((backTo cpos (starEach (e :: es) X.env)).all (fun x => !x.1) && (backToKw cpos (keywordEach [] X.env)).all (fun x => x.1.isSome)
      && decide ((e :: es).length + ([] : List Keyword).length + (if ([] : List Keyword).isEmpty then 0 else 1) < 30)) = true := by rfl)
    (hline : (apos.endLine == cpos.line) = true := by rfl) (hs : starEach (e :: es) X.env = (false, eval e X.env) :: starEach es X.env := by rfl) (hplain : (backTo cpos (starEach es X.env)).any (·.1) = false := by rfl) :
    DEx X T W n k (.Call (.Attribute o name apos) (e :: es) [] cpos) (eMt t f F G) :=
  ⟨pex_weak (pex_mt pa slot hty hm ho.run ha.run hbase hfew hline hs hplain) fun σ H Q ⟨μ, ρ, m, er, s, q⟩ => tG_mk er s (q.bind fun d m1 μ1 H1 x x1 s1 r1 q1 => by
    split at q1
    · rename_i hg
      exact ⟨tyM_of s1 r1 hg ht, tG_mk (er.ext x1) s1 (q1.bind fun ds m2 μ2 H2 xs x2 s2 r2 q2 => hf W σ μ2 H2 m2 d ds x xs Q s2 (r1.ext x2) r2 q2)⟩
    · exact q1.elim)⟩
theorem dex_call {kk i : Nat} {c : Addr} {fd : FuncData} {ps : List Str} {x : Str} {p : Pos} {B : FS} (tk : Takes X W) (hF : FnG X.prog X.w X.K X.mg X.base (L2.CX X.prog X.w) kk c fd ps (spD X.K T i B)) (hr : RmG kk X.A) (hm : X.mg x = some (.ref c)) (hk : PySem.W.keepIn X.K (.ref c) = true) (hb : Binds X.K fd ps [])
    (hA : DAx X T W n k (e :: es) G) (hg : Gl X x := by rfl) (hdb : (x == ("__debug__" : Str)) = false := by decide) (he : starEach (e :: es) X.env = (false, eval e X.env) :: starEach es X.env := by rfl) (hpl : (backTo pos (starEach es X.env)).any (·.1) = false := by rfl) :
    DEx X T W n k (.Call (.Name x p) (e :: es) [] pos) (eCall i B G) :=
  ⟨pex_weak (pex_callG (E := fun σ => WE W σ) hF hr hg hm hk hb (fun σ => passAt tk σ) hA.run hdb he hpl) fun σ H Q ⟨μ, ρ, m, er, s, q⟩ => tG_mk er s (q.bind fun ds m1 μ1 H1 vs x1 s1 r1 q1 => by
    split at q1
    · rename_i hn
      exact spD_post hn r1 s1 q1
    · exact q1.elim)⟩
/-! replace -/
def eRepl1 (y z : Str) (F : ES) : ES := fun ρ m => (F ρ m).bind fun d m1 => match d with
  | .str x => if fits (x.length + z.length) then .ok (.str (rep1 x y z)) m1 else .no
  | _ => .no
theorem rep1_len (x y z : Str) : (rep1 x y z).length ≤ x.length + z.length := by
  unfold rep1
  split
  · omega
  · have h2 := StrLaws.occ_length_le x y 0 x.length 1
    have h3 : (Builtin.Str.occurrences x y 0 x.length 1).length * z.length ≤ 1 * z.length := Nat.mul_le_mul_right _ h2
    have hy : (Builtin.Str.glued y (Builtin.Str.partsBetween x (Builtin.Str.occurrences x y 0 x.length 1) y.length)).length = x.length := by rw [StrLaws.glued_between_self]
    rw [size_glued, length_partsBetween, Nat.add_sub_cancel] at hy
    rw [size_glued, length_partsBetween, Nat.add_sub_cancel]
    omega
theorem Call_method3x {prog : Program} {w : World} {A : Around} {E : Value → Shared → Prop} {s : Shared} {env : PySem.Env} {o e1 e2 e3 : Expr} {name : Str} {apos pos : Pos} {Q : Value → Shared → Prop}
    (hbase : attributeBase o name env (eval o env) = eval o env) (hs : starEach [e1, e2, e3] env = [(false, eval e1 env), (false, eval e2 env), (false, eval e3 env)]) (hline : (apos.endLine == pos.line) = true)
    (h : wpAny (model prog w) A (eval o env) (fun ov s1 => MethodOnS prog w A E name ov pos [(false, eval e1 env), (false, eval e2 env), (false, eval e3 env)] Q s1) E s) :
    wpAny (model prog w) A (eval (.Call (.Attribute o name apos) [e1, e2, e3] [] pos) env) Q E s := by
  refine wpAny_Call_method_lateS hbase (by rw [hs]; rfl) hline ?_
  rw [hs]
  exact h
theorem dex_rep1 {y z : Str} {i0 i1 i2 : Nat} {c0 c1 c2 apos cpos : Pos} (ho : DEx X T W n k o F) (h1 : 1 ≤ k) (hyz : (y == z) = false := by decide)
    (hst : starEach [.Constant (.str y) i0 c0, .Constant (.str z) i1 c1, .Constant (.int 1) i2 c2] X.env = [(false, eval (.Constant (.str y) i0 c0) X.env), (false, eval (.Constant (.str z) i1 c1) X.env), (false, eval (.Constant (.int 1) i2 c2) X.env)] := by rfl)
    (hbase : attributeBase o "replace" X.env (eval o X.env) = eval o X.env := by rfl) (hline : (apos.endLine == cpos.line) = true := by rfl) :
    DEx X T W n k (.Call (.Attribute o "replace" apos) [.Constant (.str y) i0 c0, .Constant (.str z) i1 c1, .Constant (.int 1) i2 c2] [] cpos) (eRepl1 y z F) := by
  refine ⟨fun pins s σ H Q h0 I ⟨μ, ρ, m, er, S, q⟩ => ?_⟩
  refine Call_method3x hbase hst hline (thn (ho.run pins s σ H _ h0 I (tG_mk er S (Post.bind (Q' := fun v H1 => ∃ x, v = .str x ∧ x.length + z.length ≤ 16777216 ∧ Q (.str (rep1 x y z)) H1) q fun d m1 μ1 H1 v x1 s1 r1 q1 => by
    split at q1
    · cases r1
      split at q1
      · rename_i x h
        refine ⟨x, rfl, ?_, post_here (a := D.str _) s1 rfl q1⟩
        rw [← sizeLine_eq]
        exact fits_iff.mp h
      · exact q1.elim
    · exact q1.elim))) fun v s1 q1 => ?_)
  obtain ⟨hk, v', H1, I1, r1, x, e1, hb, q1⟩ := q1
  subst e1
  obtain ⟨tx, e2⟩ := r1
  subst e2
  refine ⟨"str", _, PySem.F.plainAttrs_str, PySem.F.slot_str_replace, PySem.F.type_str_replace, typeIs_str _ _ _, (fun _ e => nomatch e), Calls.callWith_builtin rfl (Calls.evalArgs_plain (Calls.spliced_cons ?_))⟩
  refine Calls.Constant_str (Calls.spliced_cons (Calls.Constant_str (Calls.spliced_cons (wpAny_Constant_int (Calls.spliced_nil ?_)))))
  refine tok_up (by show k ≤ s1.toks + 1 + 1 + 1; omega) ?_
  have hu : (s1.toks == 0 || s1.toks + 1 == 0) = false := by
    have z1 : (s1.toks == 0) = false := beq_eq_false_iff_ne.mpr (by omega)
    have z2 : (s1.toks + 1 == 0) = false := beq_eq_false_iff_ne.mpr (by omega)
    rw [z1, z2]
    rfl
  have huv : (s1.toks == s1.toks + 1) = false := beq_eq_false_iff_ne.mpr (by omega)
  refine call_gives PySem.F.slot_str_replace (typeIs_str _ _ _) PySem.F.entry_str_replace (PySem.F.args_str_replace_4 _ _ _ _) (gives_rep1 x y z tx s1.toks (s1.toks + 1) _ hu huv hyz hb) ?_
  have q2 := q1
  have hl := rep1_len x y z
  unfold rep1 at q2 hl
  cases hc : ((Builtin.Str.occurrences x y 0 x.length 1).isEmpty || (y.length == 0 && z.length == 0))
  · rw [hc] at q2 hl
    simp only [Bool.false_eq_true, if_false] at q2 hl ⊢
    exact ⟨by rw [sizeLine_eq]; omega, ⟨.str _, H1, I1.tok _, ⟨_, rfl⟩, q2⟩⟩
  · rw [hc] at q2
    simp only [if_true] at q2 ⊢
    exact ⟨.str _, H1, I1.tok _, ⟨_, rfl⟩, q2⟩
theorem dex_repl {y z : Str} {i0 i1 : Nat} {c0 c1 apos cpos : Pos} (ho : DEx X T W n k o F) (h1 : 1 ≤ k) (hyz : (y == z) = false := by decide)
    (hst : starEach [.Constant (.str y) i0 c0, .Constant (.str z) i1 c1] X.env = [(false, eval (.Constant (.str y) i0 c0) X.env), (false, eval (.Constant (.str z) i1 c1) X.env)] := by rfl)
    (hbase : attributeBase o "replace" X.env (eval o X.env) = eval o X.env := by rfl) (hline : (apos.endLine == cpos.line) = true := by rfl) :
    DEx X T W n k (.Call (.Attribute o "replace" apos) [.Constant (.str y) i0 c0, .Constant (.str z) i1 c1] [] cpos) (eRepl y z F) := by
  refine ⟨fun pins s σ H Q h0 I ⟨μ, ρ, m, er, S, q⟩ => ?_⟩
  refine PySem.Call_method2 hbase hst hline (thn (ho.run pins s σ H _ h0 I (tG_mk er S (Post.bind (Q' := fun v H1 => ∃ x, v = .str x ∧ x.length + (x.length + 1) * z.length ≤ 16777216 ∧ Q (.str (Txt.replace x y z)) H1) q fun d m1 μ1 H1 v x1 s1 r1 q1 => by
    split at q1
    · cases r1
      split at q1
      · rename_i x h
        exact ⟨x, rfl, of_decide_eq_true h, post_here (a := D.str _) s1 rfl q1⟩
      · exact q1.elim
    · exact q1.elim))) fun v s1 q1 => ?_)
  obtain ⟨hk, v', H1, I1, r1, x, e1, hb, q1⟩ := q1
  subst e1
  obtain ⟨tx, e2⟩ := r1
  subst e2
  refine ⟨"str", _, PySem.F.plainAttrs_str, PySem.F.slot_str_replace, PySem.F.type_str_replace, typeIs_str _ _ _, (fun _ e => nomatch e), Calls.callWith_builtin rfl (Calls.evalArgs_plain (Calls.spliced_cons ?_))⟩
  refine Calls.Constant_str (Calls.spliced_cons (Calls.Constant_str (Calls.spliced_nil ?_)))
  refine tok_up (by show k ≤ s1.toks + 1 + 1; omega) ?_
  exact PySem.SC.replace (by show s1.toks ≠ 0; omega) (by show s1.toks + 1 ≠ 0; omega) (by show s1.toks ≠ s1.toks + 1; omega) hyz hb fun t' c => ⟨.str (Txt.replace x y z), H1, I1.tok c, ⟨t', rfl⟩, q1⟩
/-! statements -/
variable {st : Stmt} {sts : List Stmt} {S S' : SS}
theorem dsx_of (h : DS X T W st S) : DSx X T W n n st S := ⟨psx_of h.run⟩
theorem dssx_of (h : DSs X T W sts S) : DSsx X T W n sts S := ⟨pssx_of h.run⟩
theorem dsx_expr (he : DEx X T W n k e F) (hs : swapsWith e none pos.line X.env = pure false := by rfl) : DSx X T W n k (.Expr e pos) (sExpr F) :=
  ⟨fun pins s σ H Z h0 I ⟨μ, ρ, m, er, S, q⟩ => psx_expr he.run hs pins s σ H Z h0 I (tG_mk er S (q.go er fun d m1 μ1 H1 x x1 s1 r1 q1 => q1.nx_here s1 (er.ext x1)))⟩
theorem dsx_ret (he : DEx X T W n k e F) : DSx X T W n k (.Return (some e) pos) (sRet F) :=
  ⟨fun pins s σ H Z h0 I ⟨μ, ρ, m, er, S, q⟩ => psx_ret he.run pins s σ H Z h0 I (tG_mk er S (q.go er fun d m1 μ1 H1 x x1 s1 r1 q1 => q1.rt_here s1 r1))⟩
theorem seq_tS {K : PySem.W.Frag} : ∀ Z σ H, tS K T W (sSeq S S') Z σ H → tSeq (tS K T W S) (tS K T W S') Z σ H := fun Z σ H ⟨μ, ρ, m, er, s, q⟩ => ⟨μ, ρ, m, er, s, by
  unfold sSeq at q
  cases r : S ρ m with
  | nx ρ1 m1 => rw [r] at q; exact fun μ1 H1 σ1 x1 s1 e1 => ⟨μ1, ρ1, m1, e1, s1, PostS.ext x1 q⟩
  | rt d m1 => rw [r] at q; exact q
  | bk ρ1 m1 => rw [r] at q; exact q
  | ct ρ1 m1 => rw [r] at q; exact q
  | ex c ns vs ρ1 m1 => rw [r] at q; exact q
  | no => rw [r] at q; exact q⟩
theorem dssx_cons (h1 : DSx X T W n k st S) (h2 : DSsx X T W k sts S') : DSsx X T W n (st :: sts) (sSeq S S') := ⟨fun pins s σ H Z h0 I q => pssx_cons h1.run h2.run pins s σ H Z h0 I (seq_tS Z σ H q)⟩
theorem dssx_one (h1 : DSx X T W n k st S) : DSsx X T W n [st] S := ⟨fun pins s σ H Z h0 I q => by
  refine wpAny_execs_cons (thn (h1.run pins s σ H Z h0 I q) fun f s1 q1 => ?_)
  cases f with
  | next => exact wpAny_execs_nil q1.2
  | ret v => exact q1.2
  | brk => exact q1.2
  | cont => exact q1.2⟩
theorem dss_x (h : DSsx X T W 0 sts S) : DSs X T W sts S := ⟨⟨fun pins s σ H Z I q => h.run pins s σ H Z (Nat.zero_le _) I q⟩⟩
end
end DL


/-! DM6: sorted of any alike data (ints, texts, tuples of such ..). -/
namespace DL
open PySem PySem.Spec L2
open PyProof.Rows hiding St pairD intD cutD
def allAl (xs : List PyData) : Bool := xs.all fun a => xs.all fun b => PySem.W.alike a b
def isTupP : PyData → Bool
  | .tuple (_ :: _) => true
  | _ => false
def isOthP : PyData → Bool
  | .none => false
  | .tuple _ => false
  | _ => true
def srtB (xs : List PyData) : Bool := allAl xs && ((xs.all isTupP || xs.all isOthP) && (xs.all (fun x => decide (x.depth ≤ 60)) && fits xs.length))
/-- the data, or None -/
def datN (m : List C) (d : D) : PyData := (dataOf m d).getD .none
def sortL (m : List C) (l : List D) : List D := l.mergeSort (PySem.W.dataLe false (datN m))
def sortAD : List D → List C → R D := fun ds m => match ds with
  | [d] => (match lstOf m d with
    | some l => (match dataOfL m l with
      | some xs => if srtB xs then .ok (.lst (sortL m l)) m else .no
      | none => .no)
    | none => .no)
  | _ => .no
section
variable {X : Cx} {T : List (Addr × Str)} {W : WX}
theorem dataOfL_map {m : List C} : ∀ {l : List D} {xs : List PyData}, dataOfL m l = some xs → l.map (datN m) = xs ∧ ∀ d ∈ l, dataOf m d = some (datN m d)
  | [], xs, e => by
    unfold dataOfL at e
    cases e
    exact ⟨rfl, fun _ h => nomatch h⟩
  | d :: l, xs, e => by
    unfold dataOfL at e
    cases h1 : dataOf m d with
    | none => rw [h1] at e; cases e
    | some y =>
      cases h2 : dataOfL m l with
      | none => rw [h1, h2] at e; cases e
      | some ys =>
        rw [h1, h2] at e
        cases e
        obtain ⟨i1, i2⟩ := dataOfL_map h2
        have e1 : datN m d = y := by unfold datN; rw [h1]; rfl
        refine ⟨by rw [List.map_cons, i1, e1], fun z hz => ?_⟩
        rcases List.mem_cons.mp hz with rfl | hz
        · rw [e1]; exact h1
        · exact i2 z hz
/-- as it stands for values of the model -/
def RepU (K : PySem.W.Frag) (μ : List Addr) (H : Hp) (v : Value) (d : D) : Prop := ∃ x, Rep K μ H d x ∧ RelV x v
theorem each_of {K : PySem.W.Frag} {μ : List Addr} {H : Hp} : ∀ {l : List D} {xs : List V} {us : List Value}, RepL K μ H l xs → Vals xs us → PySem.W.EachIs (RepU K μ H) us l
  | [], _, _, r, rv => by
    cases r
    cases rv
    exact .nil
  | d :: l, _, _, r, rv => by
    obtain ⟨x, xs, rfl, r1, r2⟩ := r
    cases rv with
    | cons a b => exact .cons ⟨x, r1, a⟩ (each_of r2 b)
theorem each_back {K : PySem.W.Frag} {μ : List Addr} {H : Hp} {us : List Value} {l : List D} (h : PySem.W.EachIs (RepU K μ H) us l) : ∃ xs, RepL K μ H l xs ∧ Vals xs us := by
  induction h with
  | nil => exact ⟨[], rfl, .nil⟩
  | cons a b ih =>
    obtain ⟨x, r, rv⟩ := a
    obtain ⟨xs, rs, rvs⟩ := ih
    exact ⟨x :: xs, ⟨x, xs, rfl, r, rs⟩, .cons rv rvs⟩
theorem each_reads {pins : List (Addr × Obj)} {σ : L2.St} {H : Hp} {s : Shared} {μ : List Addr} {m : List C} (I : Inv X pins σ H s) (S : Sto T X.K μ H m) : ∀ {l : List D} {us : List Value}, PySem.W.EachIs (RepU X.K μ H) us l → (∀ d ∈ l, dataOf m d = some (datN m d)) → PySem.W.EachIs (fun v d => ∃ as, Reads s.heap v (datN m d) as) us l := by
  intro l us h
  induction h with
  | nil => exact fun _ => .nil
  | cons a b ih =>
    intro hd
    obtain ⟨x, r, rv⟩ := a
    exact .cons (Dp.reads I _ _ _ (dataOf_dp S r (hd _ (List.mem_cons_self ..))) rv) (ih fun d h => hd d (List.mem_cons_of_mem _ h))
def rSortD (K : PySem.W.Frag) : List V → Hp → VK → Prop := fun vs H Q => ∃ (T : List (Addr × Str)) (μ : List Addr) (m : List C) (a : Addr) (l : List D) (xs : List V), Sto T K μ H m ∧ vs = [.ref a] ∧ SqL K H a xs ∧ RepL K μ H l xs ∧ (∃ ys, dataOfL m l = some ys ∧ srtB ys = true) ∧
  ∀ p zs, H p = none → RepL K μ H (sortL m l) zs → FQ Q (.ref p) (upd H p (.lst zs))
theorem cr_sortD (hu : X.A.units + 64 < cLine) : CallR X (.builtin "sorted") (rSortD X.K) := by
  intro pins s σ H vs us Q I rv h
  obtain ⟨T, μ, m, a, l, xs, S, rfl, hs, rl, ⟨ys, hy, hb⟩, q⟩ := h
  obtain ⟨u, rfl, ru⟩ := rv.one
  cases ru
  obtain ⟨its, rits, hl, hz⟩ := I.list hs
  obtain ⟨e1, e2⟩ := dataOfL_map hy
  have ee := each_of rl rits
  unfold srtB allAl at hb
  simp only [Bool.and_eq_true, Bool.or_eq_true, List.all_eq_true, decide_eq_true_eq] at hb
  obtain ⟨b1, b2, b3, b4⟩ := hb
  have hlen : l.length = ys.length := by rw [← e1, List.length_map]
  refine PySem.W.sorted_data (enc := datN m) hl.isList ee (each_reads I S ee e2) ?_ ?_ ?_ (fun d hd => ?_) fun out hlo eo => ?_
  · rw [e1]
    exact fun d hd d' hd' => b1 d hd d' hd'
  · rw [e1]
    rcases b2 with b2 | b2
    · refine .inl fun d hd => ?_
      have := b2 d hd
      unfold isTupP at this
      split at this
      · exact ⟨_, _, rfl⟩
      · cases this
    · refine .inr fun d hd => ?_
      have := b2 d hd
      unfold isOthP at this
      split at this
      · cases this
      · cases this
      · rename_i n1 n2
        exact ⟨n1, n2⟩
  · rw [hlen]
    exact fits_iff.mp b4
  · have := b3 (datN m d) (by rw [← e1]; exact List.mem_map_of_mem hd)
    omega
  · obtain ⟨zs, rz, rzo⟩ := each_back eo
    obtain ⟨ep, hat⟩ := sortedAll_at s.heap its out.toArray
    have hq := q (s.heap.objs.size + 1) zs (I.hok.fresh (Nat.le_succ _)) rz
    refine ep_frz ⟨.ref (s.heap.objs.size + 1), upd H (s.heap.objs.size + 1) (.lst zs), I.laid (t' := s.toks) (fun b o e => sortedAll_old e) (Nat.le_succ _) ⟨?_, out, ep, rzo, hat⟩, rfl, hq⟩
    rw [rzo.length, hlo, hlen]
    exact fits_iff.mp b4
theorem sortAD_ok : ArD X T sortAD (rSortD X.K) := by
  intro W σ μ H m ds xs Q S rs q
  unfold sortAD at q
  split at q
  · rename_i d
    obtain ⟨v, rfl, r⟩ := repL1 rs
    split at q
    · rename_i l hl
      split at q
      · rename_i ys hy
        split at q
        · rename_i hb
          obtain ⟨a, vs, rfl, hs, rl⟩ := lstOf_rep S r hl
          exact ⟨T, μ, m, a, l, vs, S, rfl, hs, rl, ⟨ys, hy, hb⟩, fun p zs hp rz => post_newL S rz q p hp⟩
        · exact q.elim
      · exact q.elim
    · exact q.elim
  · exact q.elim
end
end DL


/-! DM7: tuples of the module, pop, a tuple back to front, a tuple times one, repr of any data. -/
namespace DL
open PySem PySem.Spec L2
open PyProof.Rows hiding St pairD intD cutD
/-! ### a tuple of the module -/
def TupAt (K : PySem.W.Frag) (mg : Str → Option Value) (x : Str) (l : List D) : Prop := ∃ (a : Addr) (o : Obj) (its : Array Value) (n : Nat) (xs : List V), mg x = some (.ref a) ∧ K.lookup a = some o ∧ o.cls = .type "tuple" ∧ o.dict = none ∧ o.data = .seq its n ∧ its.size ≤ sizeLine ∧ Vals xs its.toList ∧ ∀ μ H, RepL K μ H l xs
section
variable {X : Cx} {T : List (Addr × Str)} {W : WX} {pos : Pos}
theorem de_ctup (l : List D) {x : Str} (h : TupAt X.K X.mg x l) (hg : Gl X x := by rfl) (hd : (x == ("__debug__" : Str)) = false := by decide) : DE X T W (.Name x pos) (eC (.tup l)) := by
  obtain ⟨a, o, its, n, xs, h, h1, h2, h3, h4, h5, h6, h7⟩ := h
  exact de_c (v := V.ref a) (pe_glob hg h rfl hd) fun μ H => ⟨a, xs, rfl, .inr ⟨o, its, n, h1, h2, h3, h4, h5, h6⟩, h7 μ H⟩
/-! ### l.pop(i) -/
def popAtD : D → List D → List C → R D := fun d ds m => match d, ds with
  | .cell n, [.int i] => (match m[n]? with
    | some (.lst l) => if -(2 ^ 63) ≤ i ∧ i < 2 ^ 63 then (match seqIndex? i l.length with
      | some k => (match l[k]? with
        | some y => .ok y (m.set n (.lst (l.eraseIdx k)))
        | none => .no)
      | none => .no) else .no
    | _ => .no)
  | _, _ => .no
theorem RepL.erase {K : PySem.W.Frag} {μ : List Addr} {H : Hp} : ∀ {l : List D} {xs : List V} (k : Nat), RepL K μ H l xs → RepL K μ H (l.eraseIdx k) (xs.eraseIdx k)
  | [], _, _, h => by
    cases h
    exact rfl
  | d :: l, _, 0, ⟨x, xs, rfl, r, q⟩ => q
  | d :: l, _, k + 1, ⟨x, xs, rfl, r, q⟩ => ⟨x, _, rfl, r, RepL.erase k q⟩
theorem popAtD_ok : MtD X T popAtD rPopAt := by
  intro W σ μ H m d ds x xs Q S r rs q
  unfold popAtD at q
  split at q
  · rename_i n i
    obtain ⟨a, ea, rfl⟩ := r
    obtain ⟨v, rfl, r1⟩ := repL1 rs
    cases r1
    split at q
    · rename_i l hm
      split at q
      · rename_i hi
        split at q
        · rename_i k hk
          split at q
          · rename_i y hy
            obtain ⟨ys, ex, rl⟩ := S.rep n _ a hm ea
            have hc : Celled (H a) := by rw [ex]; trivial
            obtain ⟨x1, s1⟩ := Post.cellL S ea hc (rl.erase k)
            obtain ⟨z, hz, rz⟩ := rl.get hy
            exact ⟨a, ys, i, k, z, rfl, rfl, ex, hi.1, hi.2, by rw [← rl.length]; exact hk, hz, q μ _ z x1 s1 (rz.ext x1)⟩
          · exact q.elim
        · exact q.elim
      · exact q.elim
    · exact q.elim
  · exact q.elim
/-! ### t[::-1] -/
theorem fm_congr {α β : Type} {f g : α → Option β} : ∀ {l : List α}, (∀ x ∈ l, f x = g x) → l.filterMap f = l.filterMap g
  | [], _ => rfl
  | a :: l, h => by
    rw [List.filterMap_cons, List.filterMap_cons, h a List.mem_cons_self, fm_congr fun x hx => h x (List.mem_cons_of_mem _ hx)]
theorem rev_range (l : List Value) : ((List.range l.length).filterMap fun (k : Nat) => l.toArray[(((l.length : Nat) : Int) - 1 + (k : Int) * (-1)).toNat]?).toArray = l.reverse.toArray := by
  have h0 := HT.pick_gen l.reverse.toArray 0 l.length
  have h1 : ((List.range l.length).filterMap fun (k : Nat) => l.toArray[(((l.length : Nat) : Int) - 1 + (k : Int) * (-1)).toNat]?) = ((List.range l.length).filterMap fun (m : Nat) => l.reverse.toArray[(((0 : Nat) : Int) + (m : Int) * 1).toNat]?) := by
    refine fm_congr fun k hk => ?_
    have hk' : k < l.length := List.mem_range.mp hk
    have e1 : (((l.length : Nat) : Int) - 1 + (k : Int) * (-1)).toNat = l.length - 1 - k := by omega
    have e2 : (((0 : Nat) : Int) + (k : Int) * 1).toNat = k := by omega
    rw [e1, e2, List.getElem?_toArray, List.getElem?_toArray, List.getElem?_reverse hk']
  rw [h1, h0, List.drop_zero, ← List.length_reverse, List.take_length]
theorem part_no {M : Model} {A : Around} {E : Value → Shared → Prop} {s : Shared} {Q : Option Int → Shared → Prop} (h : Q none s) : wpAny M A (Builtin.Slice.slicePartIndex .none) Q E s := wpAny_pure h
theorem rev_places (n : Nat) (h : 1 ≤ n) : Builtin.Slice.slicePlaces ((n : Int) - 1) (-1) (-1) = n := by
  unfold Builtin.Slice.slicePlaces
  rw [if_neg (by decide), if_pos (by omega)]
  have e : ((n : Int) - 1 - -1 - 1) / (- -1) + 1 = (n : Int) := by
    rw [show (- -1 : Int) = 1 from rfl, Int.ediv_one]
    omega
  rw [e]
  rfl
end
end DL


set_option maxHeartbeats 1000000
/-! DM8: t[::-1] and t * 1 of tuples, walked. -/
namespace DL
open PySem PySem.Spec L2
open PyProof.Rows hiding St pairD intD cutD
section
variable {prog : Program} {w : World} {A : Around} {E : Value → Shared → Prop} {s : Shared}
theorem applied_rev {sl : Addr} {vs : Value} {n : Nat} {Q : Int × Int × Nat → Shared → Prop} (hs : s.heap.IsSliceOf sl .none .none vs) (pv : IsPart vs (some (-1))) (hn : 1 ≤ n) (fin : Q ((n : Int) - 1, -1, n) s) :
    wpAny (model prog w) A (Builtin.Slice.sliceApplied (.ref sl) (pure (n : Int))) Q E s := by
  obtain ⟨ob, g1, g2, g3⟩ := id hs
  unfold Builtin.Slice.sliceApplied Builtin.Slice.sliceFields
  refine wpAny_bind (wpAny_bind (wpAny_field g1 g3 (x := .none) rfl ?_))
  refine wpAny_bind (wpAny_field g1 g3 (x := .none) rfl ?_)
  refine wpAny_bind (wpAny_field g1 g3 (x := vs) rfl (wpAny_pure ?_))
  refine wpAny_bind (HT.slicePart_ pv ?_)
  refine wpAny_ite_false (by decide) ?_
  refine wpAny_bind (part_no (wpAny_bind (part_no ?_)))
  refine wpAny_bind (wpAny_pure ?_)
  refine wpAny_pure ?_
  have e := rev_places n hn
  show Q ((n : Int) - 1, -1, Builtin.Slice.slicePlaces ((n : Int) - 1) (-1) (-1)) s
  rw [e]
  exact fin
theorem item_rev {t sl : Addr} {its : List Value} {vs : Value} {Q : Value → Shared → Prop} (ht : IsTup s.heap t its.toArray) (hs : s.heap.IsSliceOf sl .none .none vs) (pv : IsPart vs (some (-1))) (hn : 1 ≤ its.length) (hz : its.length ≤ sizeLine)
    (fin : Q (.ref s.heap.objs.size) { s with heap := s.heap.push { cls := .type "tuple", data := .seq its.reverse.toArray } }) : wpAny (model prog w) A (getItem (.ref t) (.ref sl)) Q E s := by
  have hk : sizeOk (.seq its.reverse.toArray) := by
    show its.reverse.toArray.size ≤ sizeLine
    rw [List.size_toArray, List.length_reverse]
    exact hz
  obtain ⟨ob, g1, g2, g3⟩ := id hs
  have ty : s.TypeIs (.ref sl) "slice" := ⟨ob, g1, g2⟩
  unfold getItem
  try with_reducible refine wpAny_holding ?_
  first | refine wpAny_bind (wpAny_pure ?_) | skip
  refine wpAny_bind (wpAny_sequenceKey ht.typeIs (by decide) (wpAny_bind (wpAny_callSpecial?_slot (name := Str.ofString "__getitem__") ht.typeIs PyProof.Rows.slot_tuple_getitem ?_)))
  refine wpAny_call_entry PyProof.Rows.slot_tuple_getitem ht.typeIs PyProof.Rows.entry_tuple_getitem ?_ (PyProof.Rows.args_tuple_getitem _ _)
  show wpAny _ _ (Builtin.Tuple.tupleItemsOf (.ref t) >>= _) _ _ s
  refine wpAny_bind (tupleItemsOf_ ht (wpAny_bind (wpAny_typeOf ty ?_)))
  refine wpAny_ite_true (by decide) ?_
  have en : (((its.toArray.size : Nat) : Int)) = ((its.length : Nat) : Int) := by rw [List.size_toArray]
  refine wpAny_bind ?_
  show wpAny _ _ (Builtin.Slice.sliceApplied (.ref sl) (pure ((its.toArray.size : Nat) : Int))) _ _ s
  rw [en]
  refine applied_rev hs pv hn ?_
  have no : ¬ ((((its.length : Nat) : Int) - 1 == 0 && (-1 : Int) == 1 && its.length == its.toArray.size) = true) := by
    intro z
    rw [Bool.and_eq_true, Bool.and_eq_true] at z
    exact absurd z.1.2 (by decide)
  show wpAny _ _ (if (((its.length : Nat) : Int) - 1 == 0 && (-1 : Int) == 1 && its.length == its.toArray.size) = true then _ else _) _ _ s
  rw [if_neg no, rev_range]
  first
    | exact wpAny_bind (m := Builtin.Tuple.tupleExact _) (wpAny_newObj_type (wpAny_pure ⟨_, rfl, wpAny_pure fin⟩) hk)
    | exact wpAny_bind (wpAny_bind (m := Builtin.Tuple.tupleExact _) (wpAny_newObj_type (wpAny_pure ⟨_, rfl, wpAny_pure fin⟩) hk))
end
section
variable {X : Cx} {T : List (Addr × Str)} {W : WX}
def tRevT (K : PySem.W.Frag) (te : TE) : TE := fun σ H Q => te σ H fun x H1 => ∃ a xs, x = .ref a ∧ SqT K H1 a xs ∧ 1 ≤ xs.length ∧ ∀ p o, o.dict = none → H1 p = none → Q (.ref p) (upd H1 p (.frz o (.tup xs.reverse)))
theorem pe_revT {e : Expr} {te : TE} {k : Nat} {p1 p2 p3 pos : Pos} (he : PE X e te) : PE X (.Subscript e (.Slice none none (some (.UnaryOp .USub (.Constant (.int 1) k p1) p2)) p3) pos) (tRevT X.K te) := by
  refine ⟨fun pins s σ H Q I h => ?_⟩
  refine Subscript_ (thn (he.run pins s σ H _ I h) fun v s1 q1 => ?_)
  obtain ⟨x, H1, I1, rx, a, xs, rfl, hT, hn, q1⟩ := q1
  cases rx
  have P0 : PO X none tNoPart := po_none
  refine wpAny_Slice (thn (P0.run pins s1 σ H1 (fun o G => o = none ∧ G = H1) I1 ⟨rfl, rfl⟩) fun vl s2 z => ?_)
  obtain ⟨_, _, I2, pl, rfl, rfl⟩ := z
  refine thn (P0.run pins s2 σ _ (fun o G => o = none ∧ G = _) I2 ⟨rfl, rfl⟩) fun vu s3 z => ?_
  obtain ⟨_, _, I3, pu, rfl, rfl⟩ := z
  have P1 : PO X (some (.UnaryOp .USub (.Constant (.int 1) k p1) p2)) (tPart (tUn (rU fun i => .int (-i)) (tC (.int 1)))) := po_some (pe_un un_neg pe_int)
  refine thn (P1.run pins s3 σ _ (fun o G => o = some (-1) ∧ G = _) I3 ⟨1, rfl, -1, rfl, rfl, rfl⟩) fun vs s4 z => ?_
  obtain ⟨_, _, I4, ps, rfl, rfl⟩ := z
  cases pl
  cases pu
  have I5 := I4.kept (h' := s4.heap.push { cls := .type "slice", data := .fields #[.none, .none, vs] }) (t' := s4.toks) fun b ob q => Heap.get?_push_of_some _ q
  obtain ⟨its, r, ht, hz⟩ := I5.tuple hT
  have hl := r.length
  refine tail_any (ops := [.ref a, .ref s4.heap.objs.size]) ht.typeIs (PyProof.Rows.slot_tuple_getitem.lookup) ?_ (by with_unfolding_all rfl)
  refine item_rev ht (Heap.IsSliceOf.new _ .none .none vs) ps (by omega) (by omega) ?_
  exact ⟨.ref _, _, I5.laidT (tk := s4.toks) (by rw [List.length_reverse]; exact hz) r.reverse, rfl, q1 _ _ rfl (I5.hok.fresh (Nat.le_refl _))⟩
def eRevT (F : ES) : ES := fun ρ m => (F ρ m).bind fun d m1 => match d with
  | .tup (a :: l) => .ok (.tup (a :: l).reverse) m1
  | _ => .no
theorem RepL.rev {K : PySem.W.Frag} {μ : List Addr} {H : Hp} : ∀ {l : List D} {xs : List V}, RepL K μ H l xs → RepL K μ H l.reverse xs.reverse
  | [], _, h => by
    cases h
    exact rfl
  | d :: l, _, ⟨x, xs, rfl, r, q⟩ => by
    rw [List.reverse_cons, List.reverse_cons]
    exact (RepL.rev q).append (.cons r .nil)
theorem de_revT {e : Expr} {F : ES} {k : Nat} {p1 p2 p3 pos : Pos} (he : DE X T W e F) : DE X T W (.Subscript e (.Slice none none (some (.UnaryOp .USub (.Constant (.int 1) k p1) p2)) p3) pos) (eRevT F) :=
  ⟨(pe_revT he.run).weak fun σ H Q ⟨μ, ρ, m, er, s, q⟩ => tG_mk er s (q.bind fun d m1 μ1 H1 x x1 s1 r1 q1 => by
    split at q1
    · obtain ⟨a, xs, rfl, s2, rl⟩ := r1
      exact ⟨a, xs, rfl, s2.sqt, by rw [← rl.length, List.length_cons]; omega, post_newT s1 rl.rev q1⟩
    · exact q1.elim)⟩
/-! ### t * 1 -/
theorem mul_one (l : Addr) (items : Array Value) (n : Nat) (dd : Option Addr) (sl : Array (Option Value)) (u : Tok) :
    Meets (Builtin.«tuple.__mul__» ⟨[.ref l, .int 1 u], []⟩) (fun _ R s => s.heap.get? l = some { cls := .type "tuple", dict := dd, data := .seq items n, slots := sl } ∧ R (.ok (.ret (.ref l))) s) :=
  .of_wp fun prog w A R s h => by
    obtain ⟨hp, g, d, tk, os⟩ := s
    obtain ⟨hl, h⟩ := h
    have f1 := AutoSeq1.idx_int
    wp_walk using wpAny_loadPart' hl
    repeat (first
      | (refine wpAny_ite_true (by simp) ?_; wp_walk using wpAny_loadPart' hl)
      | (refine wpAny_ite_false (by decide) ?_; wp_walk using wpAny_loadPart' hl))
    exact ⟨_, rfl, h⟩
def rMulOne (K : PySem.W.Frag) : R2 := fun x y H Q => ∃ l xs, x = .ref l ∧ y = .int 1 ∧ SqT K H l xs ∧ Q (.ref l) H
end
end DL


/-! DM9: t * k with k = 1; repr of data with dicts. -/
namespace DL
open PySem PySem.Spec L2
open PyProof.Rows hiding St pairD intD cutD
section
variable {X : Cx} {T : List (Addr × Str)} {W : WX}
theorem op_mulOne : OpR X (binaryOp .Mult) (rMulOne X.K) := by
  intro pins s σ H x y v u Q I rx ry h
  obtain ⟨l, xs, rfl, rfl, hT, q⟩ := h
  cases rx
  obtain ⟨t, rfl⟩ := ry
  obtain ⟨its, r, ⟨⟨cls, dd, data, sl⟩, ho, hc, n, hd⟩, hs⟩ := I.tuple hT
  simp only at hc hd
  subst hc hd
  refine wpAny_binaryOp_repeat_ref (T := "tuple") (U := "int") (by decide) ⟨_, ho, rfl⟩ (fun s' => typeIs_int s' 1 t) noFill_tuple_mul F.fills_int_mul F.slot_int_rmul repeat_tuple F.slot_int_index.lookup ?_
  refine call_meets F.slot_int_rmul (typeIs_int s 1 t) F.entry_int_rmul (F.args_int_rmul_2 _ _) (int_rmul_tuple 1 t l its.toArray n dd sl) ⟨ho, rfl, ⟨_, ho, rfl⟩, ?_⟩
  exact call_meets F.slot_tuple_mul ⟨_, ho, rfl⟩ F.entry_tuple_mul (F.args_tuple_mul_2 _ _) (mul_one l its.toArray n dd sl t) ⟨ho, .ref l, H, I, rfl, q⟩
def mulBD : D → D → List C → R D := fun a b m => match a, b with
  | .tup l, .int 1 => .ok (.tup l) m
  | a, b => mulAD a b m
def rMulB (K : PySem.W.Frag) : R2 := fun x y H Q => rMulOne K x y H Q ∨ rMulA K x y H Q
theorem op_mulB : OpR X (binaryOp .Mult) (rMulB X.K) := op_mulOne.or op_mulA
theorem mulBD_ok : OpD X T mulBD (rMulB X.K) := by
  intro W σ μ H m d1 d2 x y Q S r1 r2 q
  unfold mulBD at q
  split at q
  · cases r2
    obtain ⟨a, xs, rfl, s1, q1⟩ := r1
    exact .inl ⟨a, xs, rfl, rfl, s1.sqt, post_here (a := D.tup _) S ⟨a, xs, rfl, s1, q1⟩ q⟩
  · exact .inr (mulAD_ok W σ μ H m _ _ x y Q S r1 r2 q)
/-! ### repr of data with dicts -/
def keyP : Key → PyData
  | .inl i => .int i
  | .inr x => .str x
mutual
def datX : D → Option PyData
  | .non => some .none
  | .bl b => some (.bool b)
  | .int i => some (.int i)
  | .str x => some (.str x)
  | .tup l => (datXL l).map .tuple
  | .lst l => (datXL l).map .list
  | .dic ks vs => if ks.length = vs.length then (datXL vs).map fun xs => .dict ((ks.map keyP).zip xs) else none
  | _ => none
def datXL : List D → Option (List PyData)
  | [] => some []
  | d :: l => (datX d).bind fun x => (datXL l).map fun xs => x :: xs
end
/-- sys.modules is none of the tracked things -/
def SysIn (base : Heap) : Prop := ∃ o, base.get? sysModules = some o
theorem datXL_len : ∀ {l : List D} {ys : List PyData}, datXL l = some ys → l.length = ys.length
  | [], _, e => by
    unfold datXL at e
    cases e
    rfl
  | d :: l, _, e => by
    unfold datXL at e
    cases h1 : datX d with
    | none => rw [h1] at e; cases e
    | some y =>
      cases h2 : datXL l with
      | none => rw [h1, h2] at e; cases e
      | some ys =>
        rw [h1, h2] at e
        cases e
        rw [List.length_cons, List.length_cons, datXL_len h2]
theorem pairs_reads {h : Heap} {P : Program} {w : World} : ∀ {ks : List Key} {es : List DictEntry} {kvs : List (Key × Value)} {vs : List Value}, Pairs (mixKind P w) es kvs → kvs.map (·.1) = ks → kvs.map (·.2) = vs →
    (∃ as, ReadsAll h (es.map (·.key)) (ks.map keyP) as ∧ as = []) ∧ es.map (·.val) = vs
  | _, _, _, _, .nil, e1, e2 => by
    subst e1 e2
    exact ⟨⟨[], .nil, rfl⟩, rfl⟩
  | _, _, _, _, .cons (kv := kv) (e := e) hk hv r, e1, e2 => by
    subst e1 e2
    obtain ⟨⟨as, h1, h2⟩, h3⟩ := pairs_reads (h := h) r rfl rfl
    subst h2
    refine ⟨⟨[], ?_, rfl⟩, by rw [List.map_cons, List.map_cons, hv, h3]⟩
    rcases keyIs_shape hk with ⟨i, t, ek, ev⟩ | ⟨x, t, ek, ev⟩
    · rw [List.map_cons, List.map_cons, List.map_cons, ek, ev]
      exact .cons (as := []) (Reads.int i t) h1
    · rw [List.map_cons, List.map_cons, List.map_cons, ek, ev]
      exact .cons (as := []) (Reads.str x t) h1
variable {pins : List (Addr × Obj)} {σ : L2.St} {H : Hp} {s : Shared} {μ : List Addr}
theorem kv_zip : ∀ {ks : List Key} {xs : List V} {kvs : List (Key × Value)}, ks.length = xs.length → KV (ks.zip xs) kvs → kvs.map (·.1) = ks ∧ Vals xs (kvs.map (·.2))
  | [], [], _, _, h => by
    cases h
    exact ⟨rfl, .nil⟩
  | k :: ks, x :: xs, _, hl, h => by
    cases h with
    | cons a b =>
      obtain ⟨h1, h2⟩ := kv_zip (by simpa using hl) b
      exact ⟨by rw [List.map_cons, h1, ← a.1], .cons a.2 h2⟩
  | [], _ :: _, _, hl, _ => by cases hl
  | _ :: _, [], _, hl, _ => by cases hl
mutual
theorem datX_reads (I : Inv X pins σ H s) (hy : SysIn X.base) : ∀ {d : D} {v : V} {u : Value} {x : PyData}, Rep X.K μ H d v → RelV v u → datX d = some x → ∃ as, Reads s.heap u x as ∧ sysModules ∉ as
  | .non, _, _, _, r, ru, e => by
    cases r; cases ru; cases e
    exact ⟨[], .none, fun z => nomatch z⟩
  | .bl b, _, _, _, r, ru, e => by
    cases r; cases ru; cases e
    exact ⟨[], .bool b, fun z => nomatch z⟩
  | .int i, _, _, _, r, ru, e => by
    cases r
    obtain ⟨t, rfl⟩ := ru
    cases e
    exact ⟨[], .int i t, fun z => nomatch z⟩
  | .str y, _, _, _, r, ru, e => by
    cases r
    obtain ⟨t, rfl⟩ := ru
    cases e
    exact ⟨[], .str y t, fun z => nomatch z⟩
  | .tup l, _, _, _, r, ru, e => by
    obtain ⟨a, xs, rfl, hT, rl⟩ := r
    cases ru
    unfold datX at e
    cases h1 : datXL l with
    | none => rw [h1] at e; cases e
    | some ys =>
      rw [h1] at e
      cases e
      obtain ⟨its, rv, ⟨o, ho, hc, n, hd⟩, _⟩ := I.tuple hT.sqt
      obtain ⟨as, hr, hn⟩ := datXL_reads I hy rl rv h1
      exact ⟨as, .tuple ho hc hd hr, hn⟩
  | .lst l, _, _, _, r, ru, e => by
    obtain ⟨a, xs, rfl, hF, rl⟩ := r
    cases ru
    unfold datX at e
    cases h1 : datXL l with
    | none => rw [h1] at e; cases e
    | some ys =>
      rw [h1] at e
      cases e
      obtain ⟨its, rv, ⟨o, n, ho, hc, _, hd⟩, _⟩ := I.list hF.sql
      obtain ⟨as, hr, hn⟩ := datXL_reads I hy rl rv h1
      refine ⟨a :: as, .list ho hc hd hr, fun z => ?_⟩
      rcases List.mem_cons.mp z with z | z
      · obtain ⟨oy, h2⟩ := hy
        obtain ⟨_, h3⟩ := hF
        have h4 := (I.bs _ _ h2).2
        rw [z, h3] at h4
        cases h4
      · exact hn z
  | .dic ks vs, _, _, _, r, ru, e => by
    obtain ⟨a, xs, o, rfl, hD, hl, rl⟩ := r
    cases ru
    unfold datX at e
    rw [if_pos hl] at e
    cases h1 : datXL vs with
    | none => rw [h1] at e; cases e
    | some ys =>
      rw [h1] at e
      cases e
      obtain ⟨_, hs, kvs, rel, ⟨ob, es, ep, ho, hx, hd, _, hp, _⟩⟩ := dk_rd I.hok (.inr ⟨o, hD⟩)
      obtain ⟨e1, e2⟩ := kv_zip (by rw [hl, rl.length]) rel
      obtain ⟨⟨ka, h2, h3⟩, h4⟩ := pairs_reads (h := s.heap) hp e1 rfl
      subst h3
      obtain ⟨as, hr, hn⟩ := datXL_reads I hy rl e2 h1
      have hyl : (ks.map keyP).length = ys.length := by rw [List.length_map, hl, datXL_len h1]
      have z1 : ((ks.map keyP).zip ys).map (·.1) = ks.map keyP := by
        rw [List.map_fst_zip]
        exact Nat.le_of_eq hyl
      have z2 : ((ks.map keyP).zip ys).map (·.2) = ys := by
        rw [List.map_snd_zip]
        exact Nat.le_of_eq hyl.symm
      refine ⟨a :: [] ++ as, .dict (as := []) (bs := as) ho hx.1 hd (by rw [z1]; exact h2) (by rw [z2, h4]; exact hr), fun z => ?_⟩
      rcases List.mem_cons.mp z with z | z
      · rw [← z] at hs
        exact absurd hs (by simp)
      · exact hn z
  | .ty _, _, _, _, _, _, e => by simp [datX] at e
  | .tmp _, _, _, _, _, _, e => by simp [datX] at e
  | .ref _, _, _, _, _, _, e => by simp [datX] at e
  | .cell _, _, _, _, _, _, e => by simp [datX] at e
  | .lam _ _ _ _ _, _, _, _, _, _, e => by simp [datX] at e
  | .scr _, _, _, _, _, _, e => by simp [datX] at e
  | .err _ _ _, _, _, _, _, _, e => by simp [datX] at e
theorem datXL_reads (I : Inv X pins σ H s) (hy : SysIn X.base) : ∀ {l : List D} {vs : List V} {us : List Value} {xs : List PyData}, RepL X.K μ H l vs → Vals vs us → datXL l = some xs → ∃ as, ReadsAll s.heap us xs as ∧ sysModules ∉ as
  | [], _, _, _, r, ru, e => by
    cases r; cases ru
    unfold datXL at e
    cases e
    exact ⟨[], .nil, fun z => nomatch z⟩
  | d :: l, _, _, _, r, ru, e => by
    obtain ⟨v, vs, rfl, r1, r2⟩ := r
    cases ru with
    | cons a b =>
      unfold datXL at e
      cases h1 : datX d with
      | none => rw [h1] at e; cases e
      | some y =>
        cases h2 : datXL l with
        | none => rw [h1, h2] at e; cases e
        | some ys =>
          rw [h1, h2] at e
          cases e
          obtain ⟨as, g1, g2⟩ := datX_reads I hy r1 a h1
          obtain ⟨bs, g3, g4⟩ := datXL_reads I hy r2 b h2
          refine ⟨as ++ bs, .cons g1 g3, fun z => ?_⟩
          rcases List.mem_append.mp z with z | z
          · exact g2 z
          · exact g4 z
end
end
end DL


/-! DM10: repr(x) of any data. -/
namespace DL
open PySem PySem.Spec L2
open PyProof.Rows hiding St pairD intD cutD
def okX (x : PyData) : Bool := x.showable && (decide (x.depth ≤ 150) && decide (x.shown.length ≤ 16777216))
def reprXD : List D → List C → R D := fun ds m => match ds with
  | [d] => (match datX d with
    | some x => if okX x then .ok (.str x.shown) m else .no
    | none => .no)
  | _ => .no
def rReprX (K : PySem.W.Frag) : List V → Hp → VK → Prop := fun xs H Q => ∃ (μ : List Addr) (d : D) (v : V) (x : PyData), xs = [v] ∧ Rep K μ H d v ∧ datX d = some x ∧ okX x = true ∧ Q (.str x.shown) H
theorem RmG.u200 {k : Nat} {A : Around} (h : RmG k A) : A.units + 200 < cLine := by have := h.r.un; omega
section
variable {X : Cx} {T : List (Addr × Str)} {W : WX}
theorem datX_ref {K : PySem.W.Frag} {μ : List Addr} {H : Hp} {d : D} {v : V} {x : PyData} (r : Rep K μ H d v) (e : datX d = some x) : (∃ a, v = .ref a) ∨ (v = .non ∧ x = .none) ∨ (∃ b, v = .bl b ∧ x = .bool b) ∨ (∃ i, v = .int i ∧ x = .int i) ∨ ∃ y, v = .str y ∧ x = .str y := by
  cases d with
  | non => cases r; cases e; exact .inr (.inl ⟨rfl, rfl⟩)
  | bl b => cases r; cases e; exact .inr (.inr (.inl ⟨b, rfl, rfl⟩))
  | int i => cases r; cases e; exact .inr (.inr (.inr (.inl ⟨i, rfl, rfl⟩)))
  | str y => cases r; cases e; exact .inr (.inr (.inr (.inr ⟨y, rfl, rfl⟩)))
  | tup l => obtain ⟨a, _, rfl, _⟩ := r; exact .inl ⟨a, rfl⟩
  | lst l => obtain ⟨a, _, rfl, _⟩ := r; exact .inl ⟨a, rfl⟩
  | dic ks vs => obtain ⟨a, _, _, rfl, _⟩ := r; exact .inl ⟨a, rfl⟩
  | _ => simp [datX] at e
theorem call_reprX (hy : SysIn X.base) (hg : X.A.guards = some []) (hu : X.A.units + 200 < cLine) : CallR X (.builtin "repr") (rReprX X.K) := by
  intro pins s σ H xs us Q I rs h
  obtain ⟨μ, d, v, x, rfl, hr, hx, ho, q⟩ := h
  obtain ⟨u, rfl, ru⟩ := rs.one
  unfold okX at ho
  simp only [Bool.and_eq_true, decide_eq_true_eq] at ho
  obtain ⟨o1, o2, o3⟩ := ho
  rw [← sizeLine_eq] at o3
  rcases datX_ref hr hx with ⟨a, rfl⟩ | ⟨rfl, rfl⟩ | ⟨b, rfl, rfl⟩ | ⟨i, rfl, rfl⟩ | ⟨y, rfl, rfl⟩
  · cases ru
    obtain ⟨as, g1, g2⟩ := datX_reads I hy hr rfl hx
    exact repr_of_reads' g1 o1 (fun _ => g2) hg (by omega) (fun _ _ e => e) (fun h' t tk hk => ⟨.str x.shown, H, I.kept (t' := tk) hk, ⟨t, rfl⟩, q⟩) o3
  · cases ru
    rw [PyData.shown_none] at q
    exact PySem.P.repr_of_none ⟨.str _, H, I.tok _, ⟨_, rfl⟩, q⟩
  · cases ru
    rw [PyData.shown_bool] at q
    exact PySem.P.repr_of_bool ⟨.str _, H, I.tok _, ⟨_, rfl⟩, q⟩
  · obtain ⟨t, rfl⟩ := ru
    rw [PyData.shown_int] at q
    have hl : i.natAbs.log2 < 1920 := by simpa [PyData.showable] using o1
    exact PySem.P.repr_of_int hl ⟨.str _, H, I.tok _, ⟨_, rfl⟩, q⟩
  · obtain ⟨t, rfl⟩ := ru
    rw [PyData.shown_str] at q o3
    exact PySem.P.repr_of_str ⟨.str _, H, I.tok _, ⟨_, rfl⟩, q⟩ o3
theorem reprXD_ok : ArD X T reprXD (rReprX X.K) := by
  intro W σ μ H m ds xs Q S rs q
  unfold reprXD at q
  split at q
  · rename_i d
    obtain ⟨v, rfl, r⟩ := repL1 rs
    split at q
    · rename_i x hx
      split at q
      · rename_i ho
        exact ⟨μ, d, v, x, rfl, r, hx, ho, post_here (a := D.str _) S rfl q⟩
      · exact q.elim
    · exact q.elim
  · exact q.elim
end
end DL


/-! DM11: < of two ints or two texts. -/
namespace DL
open PySem PySem.Spec L2
open PyProof.Rows hiding St pairD intD cutD
def cmpUD (p : Int → Int → Bool) (q : Str → Str → Bool) : D → D → List C → R D := fun a b m => match a, b with
  | .str x, .str y => cmpSD q (.str x) (.str y) m
  | a, b => cmpD p a b m
section
variable {X : Cx} {T : List (Addr × Str)}
theorem cmpUD_ok {p : Int → Int → Bool} {q : Str → Str → Bool} {r1 r2 : R2} (h1 : OpD X T (cmpD p) r1) (h2 : OpD X T (cmpSD q) r2) : OpD X T (cmpUD p q) (fun x y H Q => r1 x y H Q ∨ r2 x y H Q) := by
  intro W σ μ H m d1 d2 x y Q S a1 a2 z
  unfold cmpUD at z
  split at z
  · exact .inr (h2 W σ μ H m _ _ x y Q S a1 a2 z)
  · exact .inl (h1 W σ μ H m _ _ x y Q S a1 a2 z)
theorem op_ltU : OpR X (compareOp .Lt) (fun x y H Q => rI0 (fun i j => .bl (decide (i < j))) x y H Q ∨ ∃ i j, x = .str i ∧ y = .str j ∧ Q (.bl (sLt i j)) H) := op_lt.or op_lt_str
end
end DL


/-! DM12: a text times a number below nought. -/
namespace DL
open PySem PySem.Spec L2
open PyProof.Rows hiding St pairD intD cutD
def rMulN : R2 := fun x y H Q => ∃ (a : Str) (k : Int), x = .str a ∧ y = .int k ∧ -100000 ≤ k ∧ k < 0 ∧ Q (.str Str.empty) H
section
variable {X : Cx} {T : List (Addr × Str)}
theorem op_mulN : OpR X (binaryOp .Mult) rMulN := by
  intro pins s σ H x y v u Q I rx ry h
  obtain ⟨a, k, rfl, rfl, h0, h1, q⟩ := h
  obtain ⟨t, rfl⟩ := rx
  obtain ⟨t2, rfl⟩ := ry
  exact PySem.P.mul_str_none (by omega) (by omega) ⟨.str Str.empty, H, I.tok _, ⟨_, rfl⟩, q⟩
def mulCD : D → D → List C → R D := fun a b m => match a, b with
  | .str x, .int k => if -100000 ≤ k ∧ k < 0 then .ok (.str Str.empty) m else mulAD (.str x) (.int k) m
  | a, b => mulAD a b m
def rMulC (K : PySem.W.Frag) : R2 := fun x y H Q => rMulN x y H Q ∨ rMulA K x y H Q
theorem op_mulC : OpR X (binaryOp .Mult) (rMulC X.K) := op_mulN.or op_mulA
theorem mulCD_ok : OpD X T mulCD (rMulC X.K) := by
  intro W σ μ H m d1 d2 x y Q S r1 r2 q
  unfold mulCD at q
  split at q
  · split at q
    · rename_i h
      cases r1; cases r2
      exact .inl ⟨_, _, rfl, rfl, h.1, h.2, post_here (a := D.str _) S rfl q⟩
    · exact .inr (mulAD_ok W σ μ H m _ _ x y Q S r1 r2 q)
  · exact .inr (mulAD_ok W σ μ H m _ _ x y Q S r1 r2 q)
end
end DL


/-! DM13: list(x) as a cell of its own. -/
namespace DL
open PySem PySem.Spec L2
open PyProof.Rows hiding St pairD intD cutD
def listC : FS := fun ds m => match ds with
  | [d] => (match seqOf m d with
    | some l => .ok (.cell m.length) (m ++ [.lst l])
    | none => .no)
  | _ => .no
section
variable {X : Cx} {T : List (Addr × Str)}
theorem listC_ok : ArD X T listC (fun xs H Q => ∃ p ys, xs = [.ref p] ∧ (SqL X.K H p ys ∨ SqT X.K H p ys) ∧ ∀ l, H l = none → Q (.ref l) (upd H l (.lst ys))) := by
  intro W σ μ H m ds xs Q S r q
  unfold listC at q
  split at q
  · obtain ⟨v, rfl, r1⟩ := repL1 r
    split at q
    · rename_i l hl
      obtain ⟨a, ys, rfl, hs, rl⟩ := seqOf_rep S r1 hl
      exact ⟨a, ys, rfl, hs, post_newC S rl q⟩
    · exact q.elim
  · exact q.elim
theorem ev_listC {F : ES} {ρ : Env} {m : List C} {l : List D} (h : F ρ m = .ok (.lst l) m) : eAr listC (aCons F aNil) ρ m = .ok (.cell m.length) (m ++ [.lst l]) := by
  unfold eAr aCons
  rw [h]
  rfl
end
end DL


/-! DGE: the end of a law whose promise is an FnG (run where no repr is under way). -/
namespace DL
open PySem PySem.Spec L2 PyProof.Rows
abbrev tabO : Obj := { cls := .none, data := .fields #[] }
abbrev scrO (vs : List Value) : Obj := { cls := .type "list", data := .seq vs.toArray }
/-- how the heap stands when the law is called: the script at a, the tables of the code objects of cs -/
structure Born (K : PySem.W.Frag) (mg mb : Str → Option Value) (s : Shared) (a : Addr) (cs : List (Addr × Addr)) (vs : List Value) (ns : List Int) : Prop where
  kin : K.In s.heap
  glob : s.heap.Ns mainGlobals mg
  blt : s.heap.Ns builtinsNs mb
  boot : ∀ y : Str, y ≠ "__name__" → mb y = bootBuiltins y
  lim : s.heap.NoLimit
  gens : s.gens = #[]
  tab : ∀ p ∈ cs, s.heap.get? p.2 = some tabO
  tabK : ∀ p ∈ cs, K.lookup p.2 = none
  code : ∀ p ∈ cs, PySem.W.CodeHd s.heap p.1 p.2
  main : ∃ (bm : Addr) (ob : Obj), mg "__builtins__" = some (.ref bm) ∧ bm ≠ builtinsNs ∧ s.heap.get? bm = some ob ∧ ob.cls = .type "module" ∧ ob.dict = some builtinsNs ∧ ob.data = .plain
  scr : s.heap.get? a = some (scrO vs)
  nums : IntsAre vs ns
  len : ns.length ≤ sizeLine
/-- what is tracked then -/
structure Seen (K : PySem.W.Frag) (a : Addr) (cs : List (Addr × Addr)) (vs : List Value) (ns : List Int) (H : Hp) : Prop where
  only : ∀ b u, H b = some u → (b = a ∧ K.lookup a = none ∧ u = .frz (scrO vs) (.lst (ns.map V.int))) ∨ ∃ p ∈ cs, p.2 = b ∧ u = .tbl #[]
  tabs : ∀ p ∈ cs, H p.2 = some (.tbl #[])
  sq : SqL K H a (ns.map V.int)
section
variable {P : Program} {w : World} {K : PySem.W.Frag} {mg mb : Str → Option Value} {s : Shared} {a : Addr} {cs : List (Addr × Addr)} {vs : List Value} {ns : List Int} {H : Hp}
theorem Born.apart (B : Born K mg mb s a cs vs ns) {p : Addr × Addr} (hp : p ∈ cs) : p.2 ≠ a := fun e => by
  have h1 := B.tab p hp
  rw [e, B.scr] at h1
  have h2 := congrArg Obj.data (Option.some.inj h1)
  nomatch h2
open Classical in
/-- the tracked things, as a table -/
noncomputable def bornH (K : PySem.W.Frag) (a : Addr) (cs : List (Addr × Addr)) (vs : List Value) (ns : List Int) : Hp := fun b =>
  if ∃ p ∈ cs, p.2 = b then some (.tbl #[]) else if b = a ∧ K.lookup a = none then some (.frz (scrO vs) (.lst (ns.map V.int))) else none
theorem Born.seen (B : Born K mg mb s a cs vs ns) : Seen K a cs vs ns (bornH K a cs vs ns) := by
  have na : ¬ ∃ p ∈ cs, p.2 = a := fun ⟨p, hp, e⟩ => B.apart hp e
  refine ⟨fun b u hu => ?_, fun p hp => if_pos ⟨p, hp, rfl⟩, ?_⟩
  · unfold bornH at hu
    split at hu
    · next h =>
      obtain ⟨p, hp, e⟩ := h
      exact .inr ⟨p, hp, e, (Option.some.inj hu).symm⟩
    · split at hu
      · next h => exact .inl ⟨h.1, h.2, (Option.some.inj hu).symm⟩
      · nomatch hu
  · cases hk : K.lookup a with
    | none =>
      refine .inl (.inr ⟨scrO vs, ?_⟩)
      unfold bornH
      rw [if_neg na, if_pos ⟨rfl, hk⟩]
    | some o =>
      have e1 := B.kin a o hk
      rw [B.scr] at e1
      cases e1
      exact .inr ⟨scrO vs, vs.toArray, _, hk, rfl, rfl, rfl, by rw [List.size_toArray, B.nums.length]; exact B.len, by rw [List.toList_toArray]; exact vals_ints B.nums⟩
theorem Born.hok (B : Born K mg mb s a cs vs ns) (T : Seen K a cs vs ns H) : HOk P w H s.heap := fun b u hu => by
  rcases T.only b u hu with ⟨rfl, _, rfl⟩ | ⟨p, hp, rfl, rfl⟩
  · have q : ObjOk P w H s.heap b (.lst (ns.map V.int)) := ⟨by rw [List.length_map]; exact B.len, vs, _, vals_ints B.nums, B.scr⟩
    exact ⟨B.scr, q⟩
  · exact B.tab p hp
/-- what is neither a list nor a table is not tracked -/
theorem Born.free (B : Born K mg mb s a cs vs ns) (T : Seen K a cs vs ns H) {b : Addr} {o : Obj} (e : s.heap.get? b = some o) (h1 : o.data ≠ (scrO vs).data) (h2 : o.data ≠ tabO.data) : H b = none := by
  cases hu : H b with
  | none => rfl
  | some u =>
    rcases T.only b u hu with ⟨rfl, _, _⟩ | ⟨p, hp, rfl, _⟩
    · exact absurd (congrArg Obj.data (Option.some.inj (e.symm.trans B.scr))) h1
    · exact absurd (congrArg Obj.data (Option.some.inj (e.symm.trans (B.tab p hp)))) h2
theorem Born.stay (B : Born K mg mb s a cs vs ns) (T : Seen K a cs vs ns H) {b : Addr} {o : Obj} (e : s.heap.get? b = some o) (h1 : o.data ≠ (scrO vs).data) (h2 : o.data ≠ tabO.data) : (hidT s.heap H).get? b = some o := hidT_get e (B.free T e h1 h2)
theorem Born.names (B : Born K mg mb s a cs vs ns) (T : Seen K a cs vs ns H) {b : Addr} {g : Str → Option Value} (h : s.heap.Ns b g) : (hidT s.heap H).Ns b g := by
  obtain ⟨o, es, ep, e, hd, r⟩ := h
  exact ⟨o, es, ep, B.stay T e (by rw [hd]; exact fun z => nomatch z) (by rw [hd]; exact fun z => nomatch z), hd, r⟩
theorem Born.kinH (B : Born K mg mb s a cs vs ns) (T : Seen K a cs vs ns H) : K.In (hidT s.heap H) := fun b o hk => by
  refine hidT_get (B.kin b o hk) ?_
  cases hu : H b with
  | none => rfl
  | some u =>
    rcases T.only b u hu with ⟨rfl, z, _⟩ | ⟨p, hp, rfl, _⟩
    · rw [z] at hk; nomatch hk
    · rw [B.tabK p hp] at hk; nomatch hk
theorem Born.env (B : Born K mg mb s a cs vs ns) (T : Seen K a cs vs ns H) : Env0 P w K mg (hidT s.heap H) callerA [] s H where
  frames := rfl
  mod := ⟨B.kinH T, B.names T B.glob, ⟨mb, B.names T B.blt, B.boot⟩, by
    obtain ⟨mc, n1, n2⟩ := B.lim
    exact ⟨mc, B.names T n1, n2⟩⟩
  bs := fun _ _ e => of_hidT e
  bsz := Nat.le_of_eq (hidT_size s.heap H)
  funs := trivial
  frf := fun _ hb => nomatch (show _ ∈ ([] : List Addr) from hb)
  hok := B.hok T
  bare := .of_eq B.gens
theorem Born.tabB (B : Born K mg mb s a cs vs ns) (T : Seen K a cs vs ns H) {p : Addr × Addr} (hp : p ∈ cs) : LamX.TabB (hidT s.heap H) mg p.1 p.2 where
  code := by
    obtain ⟨o, us, file, tf, flags, tg, inF, text, tt, e, r1, r2, r3, r4⟩ := B.code p hp
    refine ⟨o, us, file, tf, flags, tg, inF, text, tt, B.stay T e (by rw [r2]; exact fun z => nomatch z) (fun z => ?_), r1, r2, r3, r4⟩
    rw [r2] at z
    cases z
    nomatch r3
  bm := by
    obtain ⟨bm, ob, e1, e2, e3, e4, e5, e6⟩ := B.main
    refine ⟨bm, ob, e1, e2, fun z => ?_, fun z => ?_, B.stay T e3 (by rw [e6]; exact fun z => nomatch z) (by rw [e6]; exact fun z => nomatch z), e4, e5, e6⟩
    · obtain ⟨o, es, ep, e, hd, _⟩ := B.glob
      rw [z, e] at e3
      rw [← Option.some.inj e3, hd] at e6
      nomatch e6
    · rw [z, B.tab p hp] at e3
      rw [← Option.some.inj e3] at e6
      nomatch e6
  gP := fun z => by
    obtain ⟨o, es, ep, e, hd, _⟩ := B.glob
    rw [z, B.tab p hp] at e
    rw [← Option.some.inj e] at hd
    nomatch hd
/-- what the run has left of the heap -/
theorem Born.old (B : Born K mg mb s a cs vs ns) (T : Seen K a cs vs ns H) {H' : Hp} {s' : Shared} (un : Un (frs []) [] H H' s.heap s'.heap) (hok : HOk P w H' s'.heap) : OldK s.heap s'.heap := by
  have keep : ∀ b o, (∀ p ∈ cs, p.2 ≠ b) → s.heap.get? b = some o → s'.heap.get? b = some o := fun b o nb e => by
    cases hu : H b with
    | none => exact un.keep b o e hu (fun z => nomatch (show b ∈ ([] : List Addr) from z)) (fun z => nomatch z)
    | some u =>
      rcases T.only b u hu with ⟨rfl, _, rfl⟩ | ⟨p, hp, z, _⟩
      · rw [B.scr] at e
        rw [← e]
        exact (hok b _ (un.frzs b _ _ hu)).1
      · exact absurd z (nb p hp)
  have each : ∀ b o, s.heap.get? b = some o → asItWas s.heap s'.heap b o ∧ ∃ o', s'.heap.get? b = some o' := fun b o e => by
    by_cases hb : ∃ p ∈ cs, p.2 = b
    · obtain ⟨p, hp, rfl⟩ := hb
      obtain ⟨more, z⟩ := un.tbls p.2 #[] (T.tabs p hp)
      have z2 : s'.heap.get? p.2 = some { cls := .none, data := .fields (#[] ++ more) } := hok p.2 _ z
      obtain rfl : tabO = o := Option.some.inj ((B.tab p hp).symm.trans e)
      exact ⟨.inr (.inl ⟨((B.code p hp).tab (B.tab p hp)).isCodeTable, rfl, #[], more, rfl, z2⟩), _, z2⟩
    · have z := keep b o (fun p hp q => hb ⟨p, hp, q⟩) e
      exact ⟨.inl z, o, z⟩
  exact ⟨fun b o e => (each b o e).1, fun b o e => (each b o e).2⟩
/-- the law's call, its promise an FnG -/
theorem Born.call {CX : CXT} {k : Nat} {fa : Addr} {fd : FuncData} {x : Str} {sp : Sp} (B : Born K mg mb s a cs vs ns) (hr : Room k callerA)
    (F : ∀ base : Heap, K.In base → base.Ns mainGlobals mg → (∀ p ∈ cs, LamX.TabB base mg p.1 p.2) → FnG P w K mg base CX k fa fd [x] sp) (hb : BindsTo s fd ⟨[.ref a], []⟩ [(x, .ref a)])
    (hsp : ∀ H : Hp, (∀ p ∈ cs, H p.2 = some (.tbl #[])) → SqL K H a (ns.map V.int) → sp [.ref a] H (fun v _ => v = .bl true) fun _ _ _ => False)
    (hCX : ∀ H e s', CX [] H s (fun _ _ _ => False) e s' → False) :
    codeAny (model P w) callerA (.call (.ref fa) ⟨[.ref a], []⟩) (fun r s' => r = .ok (.ret (.bool true)) ∧ OldK s.heap s'.heap ∧ s'.os = s.os ∧ AllBare s'.gens) s := by
  have T := B.seen
  have G := F _ (B.kinH T) (B.names T B.glob) fun p hp => B.tabB T hp
  have R := G.run callerA [] s _ _ [.ref a] [.ref a] _ _ ⟨hr, rfl⟩ (B.env T) hb (.cons rfl .nil) (hsp _ T.tabs T.sq)
  refine codeAny_mono R fun r s' h => ?_
  match r, h with
  | .error e, h => exact (hCX _ e s' h).elim
  | .ok .next, h => exact False.elim h
  | .ok .brk, h => exact False.elim h
  | .ok .cont, h => exact False.elim h
  | .ok (.ret u), h =>
    obtain ⟨v, H', os, bare, un, hok', r', q⟩ := h
    cases q
    have hu : u = Value.bool true := r'
    exact ⟨by rw [hu], B.old T un hok', os, bare⟩
end
/-- the law's promise at the head's heap h -/
def LawAtG (l : PySem.W.OpenLaw) (w : World) (K : PySem.W.Frag) (CX : CXT) (k n : Nat) (x : Str) (mg : Str → Option Value) (fa : Addr) (h : Heap) : Prop :=
  ∃ (fd : FuncData) (cs : List (Addr × Addr)) (sp : Sp), ((∀ p ∈ cs, h.get? p.2 = some tabO) ∧ (∀ p ∈ cs, K.lookup p.2 = none) ∧ ∀ p ∈ cs, PySem.W.CodeHd h p.1 p.2) ∧ (∀ (s : Shared) (u : Value), BindsTo s fd ⟨[u], []⟩ [(x, u)]) ∧
    (∀ (H : Hp) (a : Addr) (ns : List Int), ns.length ≤ n → (∀ z ∈ ns, Builtin.Int.intBits z ≤ 1048576) → (∀ p ∈ cs, H p.2 = some (.tbl #[])) → SqL K H a (ns.map V.int) → sp [.ref a] H (fun v _ => v = .bl true) fun _ _ _ => False) ∧
    ∀ base : Heap, K.In base → base.Ns mainGlobals mg → (∀ p ∈ cs, LamX.TabB base mg p.1 p.2) → FnG l.prog w K mg base CX k fa fd [x] sp
theorem walkG {l : PySem.W.OpenLaw} {n k : Nat} {q : Program} {loose : List Str} {XP : (Str → Option Value) → Heap → Prop} {YP : World → Heap → Prop} {d : DefRec} {K : Params → PySem.W.Frag} {CX : World → CXT} {x : Str}
    (hn : l.most = some n) (hl : n ≤ sizeLine) (hd : d.params.defaults = []) (hr : Room k callerA) (hY : ∀ (w : World) (h : Heap), YP w h → (K w.params).In h)
    (F : ∀ (w : World) (mg : Str → Option Value) (fa : Addr) (h : Heap), YP w h → (K w.params).In h → h.Ns mainGlobals mg → mg d.name = some (.ref fa) → LawAtG l w (K w.params) (CX w) k n x mg fa h)
    (hCX : ∀ (w : World) (H : Hp) (s : Shared) (e : Value) (s' : Shared), CX w [] H s (fun _ _ _ => False) e s' → False) : PySem.W.WalkO q loose XP YP l.row.toRowW d [] (fun f vs => PySem.call f vs) :=
  Att.attach_callB hn hd fun w _ s₁ mg mb fa _ _ _ _ a vs ns G Y _ _ _ hmg hobj hints hlen hbits hg => by
    obtain ⟨fd, cs, sp, ⟨t1, t2, t3⟩, hb, hsp, hF⟩ := F w mg fa _ Y (hY w _ Y) G.T.g hmg
    have B : Born (K w.params) mg mb s₁ a cs vs ns := ⟨hY w _ Y, G.T.g, G.T.b, G.T.builtins, G.T.nolimit, hg, t1, t2, t3, G.T.bmain, hobj, hints, Nat.le_trans hlen hl⟩
    exact B.call hr hF (hb s₁ (.ref a)) (fun H hH hS => hsp H a ns hlen hbits hH hS) fun H e s' => hCX w H s₁ e s'
/-! ### tuples of written things in the module -/
def atD : Str ⊕ Int → D
  | .inl x => .str x
  | .inr i => .int i
def atV : Str ⊕ Int → V
  | .inl x => .str x
  | .inr i => .int i
def atW (p : (Str ⊕ Int) × Tok) : Value := match p.1 with
  | .inl x => .str x p.2
  | .inr i => .int i p.2
theorem at_vals : ∀ ps : List ((Str ⊕ Int) × Tok), Vals (ps.map fun p => atV p.1) (ps.map atW)
  | [] => .nil
  | (.inl x, t) :: ps => .cons ⟨t, rfl⟩ (at_vals ps)
  | (.inr i, t) :: ps => .cons ⟨t, rfl⟩ (at_vals ps)
theorem at_rep {K : PySem.W.Frag} {μ : List Addr} {H : Hp} : ∀ ps : List ((Str ⊕ Int) × Tok), RepL K μ H (ps.map fun p => atD p.1) (ps.map fun p => atV p.1)
  | [] => rfl
  | (.inl x, t) :: ps => ⟨_, _, rfl, rfl, at_rep ps⟩
  | (.inr i, t) :: ps => ⟨_, _, rfl, rfl, at_rep ps⟩
theorem tupAt_mk {K : PySem.W.Frag} {mg : Str → Option Value} {x : Str} {a : Addr} {its : Array Value} {n : Nat} {sl : Array (Option Value)} (ps : List ((Str ⊕ Int) × Tok)) (h : mg x = some (.ref a)) (e : K.lookup a = some ⟨.type "tuple", none, .seq its n, sl⟩) (hs : its.toList = ps.map atW) (hz : its.size ≤ sizeLine) : TupAt K mg x (ps.map fun p => atD p.1) :=
  ⟨a, _, its, n, _, h, e, rfl, rfl, rfl, hz, by rw [hs]; exact at_vals ps, fun _ _ => at_rep ps⟩
end DL


/-! DX1: an own exception over ValueError whose __init__ says super().__init__(x) and self.f = x. -/
namespace DL
open PySem PySem.Spec L2 PyProof.Rows PySem.W PySem.Calls
/-! ### the bound __init__, called -/
section
variable {prog : Program} {w : World} {A : Around} {E : Value → Shared → Prop} {h : Heap} {g : Array GenState} {d : Drawn} {t : Nat} {os : OsState}
theorem call_mw {u e C t0 : Addr} {dv : Option Addr} {bmB : List Value} {newId i B : String} {rest : List Value} {Q : Value → Shared → Prop} (FB : ExcBaseFacts B newId i bmB) {nm q : Str} {N : Addr} {bs bm : List Value} {hdct : Bool} {sn : List Str} {sub : List Value} {ab : Bool} {col : Option Bool} {dd : Option Addr} {k0 k1 k2 k3 k5 : Option Value}
    (hC : h.get? C = some (excClassObj nm q C N bs bm hdct sn sub ab col dd k0 k1 k2 k3 k5 newId)) (he : h.get? e = some (excObj C t0 dv .none)) (hu : h.get? u = some (kxs_mw i e)) (hz : rest.length ≤ sizeLine)
    (hq : ∀ h' t1, (∀ b o, b ≠ e → h.get? b = some o → h'.get? b = some o) → h'.get? e = some (excObj C t1 dv .none) → Q .none ⟨h', g, d, t, os⟩) : wpAny (model prog w) A (call (.ref u) rest) Q E ⟨h, g, d, t, os⟩ := by
  apply wpAny_call
  apply codeAny_of_tree
  show wpAny _ A.in1 (callAny (.ref u) ⟨rest, []⟩) _ _ _
  unfold callAny
  apply wpAny_bind
  apply wpAny_load hu
  dsimp only [kxs_mw]
  rw [if_pos (show (Value.type "method-wrapper" == Value.type "method" || Value.type "method-wrapper" == .type "builtin_function_or_method" || Value.type "method-wrapper" == .type "method-wrapper") = true by decide)]
  apply KFB.if_so (by decide)
  apply wpAny_bind
  apply check_bound_init FB.toExcCallFacts hC he rfl
  apply wpAny_pure
  refine ⟨plainId_quiet FB.init.plain _, codeAny_builtin FB.initEntry ?_⟩
  exact exc_init_tree (c3 := .none) (b4 := .bool false) he hz fun h' k1 k2 _ => hq h' _ k1 k2
end
/-! ### super().__init__(x) in such an __init__ -/
section
variable {X : Cx} {pins : List (Addr × Obj)} {σ : L2.St} {H : Hp} {s : Shared}
/-- what the written part says for it -/
structure SupC (P : Program) (K : PySem.W.Frag) (mg : Str → Option Value) (C fI cda cc : Addr) (fd : FuncData) : Prop where
  fn : ∃ (oc : Value) (od : Option Addr) (osl : Array (Option Value)), K.lookup fI = some ⟨oc, od, .func fd, osl⟩
  code : ∃ (oc : Value) (od : Option Addr) (osl : Array (Option Value)) (vs : Array Value) (file : Str) (tf : Tok), K.lookup cda = some ⟨oc, od, .fields vs, osl⟩ ∧ vs[2]? = some (.str file tf) ∧ ((P.main.file : Str) == file) = true
  cell : ∃ (oc : Value) (od : Option Addr) (osl : Array (Option Value)), K.lookup cc = some ⟨oc, od, .cell (some (.ref C)), osl⟩
  sub : mroIn K C (.ref C) = some true
  sup : mg "super" = none
  top : (P.main.scope.names.lookup ("super" : Str)).isSome = false
  op : nsIn K cStatics "thirdparty.any" = some none
  al : ks_superIn K C C "__init__" = some (some (.builtin "ValueError.__init__"))
  sv : subIn K (.ref C) (.type "ValueError") = some true
theorem super_at {C fI cda cc a : Addr} {fd : FuncData} {self x : Str} {ar : Arg} {body : List Stmt} {y : V} {p0 p1 p2 p3 p4 : Pos} {Q : Value → Shared → Prop} (S : SupC X.prog X.K X.mg C fI cda cc fd) (T : OexC X.K C) (I : Inv X pins σ H s) (ea : H a = some (exo a C none))
    (hN0 : X.N[0]? = some self) (hs0 : σ[0]? = some (some (.ref a))) (hN1 : X.N[1]? = some x) (hs1 : σ[1]? = some (some y)) (hk0 : X.env.kindOf self = some .local) (hk1 : X.env.kindOf x = some .local)
    (hks : X.env.kindOf "super" = some .globalImplicit) (hkc : X.env.kindOf "__class__" = some .free) (hcc : X.env.cells.lookup ("__class__" : Str) = some cc) (hfu : X.env.func = some fI) (hcd : X.env.code = .ref cda)
    (har : (fd.params.posonlyargs ++ fd.params.args).head? = some ar) (hself : ar.arg = self) (hdx : (x == ("__debug__" : Str)) = false) {pl : Sem Bool}
    (he : eval (.Call (.Attribute (.Call (.Name "super" p0) [] [] p1) "__init__" p2) [.Name x p3] [] p4) X.env = (do
      let ov ← attributeBase (.Call (.Name "super" p0) [] [] p1) "__init__" X.env (eval (.Call (.Name "super" p0) [] [] p1) X.env)
      standAt p2.atName
      let (fn, first) ← holding [ov] (getMethod ov "__init__" pl)
      callWith p4 fn first (backTo p4 (starEach [.Name x p3] X.env)) []))
    (h : ∀ s', Inv X pins σ H s' → Q .none s') :
    _root_.PySem.wpAt (model X.prog X.w) X.A (.func body X.env) (eval (.Call (.Attribute (.Call (.Name "super" p0) [] [] p1) "__init__" p2) [.Name x p3] [] p4) X.env) Q X.xe s := by
  obtain ⟨nm, qn, N, bs, bm, sn, sub, ab, col, dd, k0, k1, k2, k3, k5, hC, hbm⟩ := T.cls
  obtain ⟨foc, fod, fosl, hf⟩ := S.fn
  obtain ⟨coc, cod, cosl, vs, file, tf, hco, hv2, hfile⟩ := S.code
  obtain ⟨loc, lod, losl, hcell⟩ := S.cell
  obtain ⟨t1, ho⟩ := exo_at I.hok ea
  obtain ⟨m, hns, hm⟩ := I.loc
  have hkf : X.env.scope.kind = .function := I.ok.kind
  obtain ⟨u0, r0, l0⟩ := hm 0 self _ hN0 hs0 (.inl hk0)
  obtain ⟨u1, r1, l1⟩ := hm 1 x _ hN1 hs1 (.inl hk1)
  have m0 : m self = some (.ref a) := by
    rcases l0 with ⟨_, e⟩ | ⟨z, _⟩
    · rw [e, show u0 = Value.ref a from r0]
    · rw [hk0] at z; rcases z with z | z <;> cases z
  have m1 : m x = some u1 := by
    rcases l1 with ⟨_, e⟩ | ⟨z, _⟩
    · exact e
    · rw [hk1] at z; rcases z with z | z <;> cases z
  have KX := I.kIn
  have hcls : clsIn X.K C = some { name := nm, bases := bs, mro := .ref C :: bm, ns := N, qualname := qn, hasDict := true, slotNames := sn, subclasses := sub, abstract := ab, collection := col, hasDel := false } := by unfold clsIn; rw [hC]
  obtain ⟨mb, hmb, hbb⟩ := I.mod.blt
  have J : InstAt s.heap a (excObj C t1 none .none) C none := ⟨ho, rfl, rfl, trivial⟩
  obtain ⟨hp, g, d, t, os⟩ := s
  refine ks_wpAt_MethodCall (pl := pl) (he := he) (ks_wpAt_super_base hks hkc (by decide) hfu (KX _ _ hf) rfl har hcd (KX _ _ hco) rfl hv2 hfile S.top ?_)
  refine ks_loadName_global hkf hks (loadGlobal_builtin (by rw [I.ok.glob]; exact I.mod.glob.keeps I.bk) S.sup (by rw [I.ok.blt]; exact hmb.keeps I.bk) ((hbb _ (by decide +kernel)).trans (show bootBuiltins "super" = some (.type "super") by first | rfl | decide +kernel)) ⟨rfl, ?_⟩)
  refine wpAny_loadName_free hkf hkc hcc ⟨_, KX _ _ hcell, rfl⟩ ?_
  refine wpAny_loadName_local hkf (by rw [hself]; exact hk0) hns (by rw [hself]; exact m0) ?_
  refine ks_wpAny_isType_cls (KX _ _ hC) rfl ⟨rfl, ?_⟩
  refine ks_wpAny_call_super (KX _ _ hC) rfl J.at_ J.cls (fun c z => nomatch z) (looks_mroIn KX S.sub) fun h1 e1 k1 => ?_
  have J1 : InstAt h1 a (excObj C t1 none .none) C none := ⟨k1 _ _ ho, rfl, rfl, trivial⟩
  have KX1 : X.K.In h1 := KX.keeps k1
  have al := S.al
  unfold ks_superIn at al
  rw [hcls] at al
  refine kxs_getMethod kxs_ValueError e1 (looks_opaque KX1 S.op) (l₀ := .ref C :: bm) ?_ rfl KX1 al (J1.type.andThen (looks_subIn KX1 S.sv)) (ks_ne KX1 J1 hcls) (by decide) ?_
  · exact fun A Q E s k q => wpAny_bind ((looks_clsIn KX1 hcls) A _ E s k (wpAny_pure q))
  have e2 : (h1.push (kxs_mw "ValueError.__init__" a)).get? h1.objs.size = some (kxs_mw "ValueError.__init__" a) := Heap.get?_push_at rfl rfl
  have k2 : ∀ b o, hp.get? b = some o → (h1.push (kxs_mw "ValueError.__init__" a)).get? b = some o := fun b o e => Heap.get?_push_of_some _ (k1 b o e)
  refine kxs_callWith (i := "ValueError.__init__") (x := a) rfl ?_
  refine evalArgs_plain (Calls.spliced_cons (wpAny_Name (wpAny_loadName_local hkf hk1 (hns.keeps k2) m1 ?_) hdx))
  refine Calls.spliced_nil ⟨e2, ?_⟩
  refine call_mw F.excBase_ValueError (KX _ _ hC |> k2 _ _) (k2 _ _ ho) e2 (show 1 ≤ sizeLine by decide) fun h' t2 k3 e3 => ?_
  have I1 : Inv X pins σ H ⟨h1.push (kxs_mw "ValueError.__init__" a), g, d, t + 1, os⟩ := I.kept (t' := t + 1) k2
  have I2 := I1.write (t' := t + 1) (x := a) (e := a) (o := exo a C none) (by rw [ea]; exact True.intro) (.inl rfl) k3 ⟨_, e3⟩ (exo_ok e3)
  have eu : upd H a (exo a C none) = H := by
    funext b
    by_cases hb : b = a
    · rw [hb, upd_same, ea]
    · rw [upd_ne hb]
  rw [eu] at I2
  exact h _ I2
end
end DL


/-! DX2: the run of such an __init__. -/
namespace DL
open PySem PySem.Spec L2 PyProof.Rows PySem.W PySem.Calls
/-- the context of such a def: its cell of the class stands in the written part -/
def supCx (CX : CXT) (P : Program) (w : World) (K : PySem.W.Frag) (mg : Str → Option Value) (base : Heap) (N : List Str) (env : PySem.Env) (A : Around) (outer : List PySem.Env) (s : Shared) (H : Hp) (E : XK) : Cx where
  prog := P
  w := w
  K := K
  mg := mg
  base := base
  A := A.deeper env
  N := N
  s_0 := s
  H_0 := H
  env := env
  outer := outer
  stack := env :: outer
  ex := []
  calm := true
  fn := fun _ => false
  pn := []
  xe := fun e s' => wpAny (model P w) (A.deeper env) (leaving env e) (fun _ s2 => CX outer H s E e s2) (fun e' s2 => CX outer H s E e' s2) s'
/-- what such an __init__ does -/
def spX (C : Addr) (f : Str) : Sp := fun vs H Q _ => ∃ (a : Addr) (y : V), vs = [.ref a, y] ∧ H a = some (exo a C none) ∧ ∀ dx, H dx = none → dx ≠ a → Q .non (upd (upd H dx (exd dx [(f, y)])) a (exo a C (some dx)))
section
variable {CX : CXT} {P : Program} {w : World} {K : PySem.W.Frag} {mg : Str → Option Value} {base : Heap} {C fI cda cc : Addr} {qual self x f : Str} {params : Arguments} {scope : Scope} {kV doc pm ct : Value} {an : Option Addr} {p0 p1 p2 p3 p4 p5 p6 p7 p8 p9 : Pos} {ar : Arg}
abbrev supE (x : Str) (p0 p1 p2 p3 p4 : Pos) : Expr := .Call (.Attribute (.Call (.Name "super" p0) [] [] p1) "__init__" p2) [.Name x p3] [] p4
abbrev supB (self x f : Str) (p0 p1 p2 p3 p4 p5 p6 p7 p8 p9 : Pos) : List Stmt := [.Expr (supE x p0 p1 p2 p3 p4) p5, .Assign [.Attribute (.Name self p6) f p7] (.Name x p8) p9]
theorem ok_sup (S : SupC P K mg C fI cda cc (ksFn "__init__" qual params (supB self x f p0 p1 p2 p3 p4 p5 p6 p7 p8 p9) scope .none kV doc pm an (.ref cda) ct cc)) (T : OexC K C) (hno : findIn K (.ref C) f = some none) (hcode : codeIn K (.ref cda) qual = true)
    (hk : scope.kind = .function) (hco : scope.isCoroutine = false) (hgen : scope.isGenerator = false) (hcells : ∀ z ∈ scope.names, z.2 ≠ .cell) (hfree : ∀ z ∈ scope.names, z.2 = .free → z.1 = "__class__")
    (ls : scope.names.lookup self = some .local) (lx : scope.names.lookup x = some .local) (lsup : scope.names.lookup ("super" : Str) = some .globalImplicit) (lcl : scope.names.lookup ("__class__" : Str) = some .free)
    (har : (params.posonlyargs ++ params.args).head? = some ar) (hself : ar.arg = self) (hne : self ≠ x) (hdx : (x == ("__debug__" : Str)) = false) (hds : (self == ("__debug__" : Str)) = false) (hcx : (x == ("__classdict__" : Str)) = false) (hcs : (self == ("__classdict__" : Str)) = false)
    {pl : Nat → Sem Bool}
    (he : ∀ L, eval (supE x p0 p1 p2 p3 p4) (ksEnv qual scope L fI (.ref cda) cc) = (do
      let ov ← attributeBase (.Call (.Name "super" p0) [] [] p1) "__init__" (ksEnv qual scope L fI (.ref cda) cc) (eval (.Call (.Name "super" p0) [] [] p1) (ksEnv qual scope L fI (.ref cda) cc))
      standAt p2.atName
      let (fn, first) ← holding [ov] (getMethod ov "__init__" (pl L))
      callWith p4 fn first (backTo p4 (starEach [.Name x p3] (ksEnv qual scope L fI (.ref cda) cc))) []))
    (hi : ∀ L, interactive (ksEnv qual scope L fI (.ref cda) cc) = false) (hs1 : ∀ L, swapsWith (supE x p0 p1 p2 p3 p4) none p5.line (ksEnv qual scope L fI (.ref cda) cc) = pure false)
    (hs2 : ∀ L, swapsWith (.Name x p8) (some (.Attribute (.Name self p6) f p7)) p9.line (ksEnv qual scope L fI (.ref cda) cc) = pure false) :
    FnOk P w K mg base CX 0 fI (ksFn "__init__" qual params (supB self x f p0 p1 p2 p3 p4 p5 p6 p7 p8 p9) scope .none kV doc pm an (.ref cda) ct cc) [self, x] (spX C f) := by
  refine ⟨fun vs H Q E h => ?_, fun A outer s H args us vs Q E hr e0 hb r hsp => ?_⟩
  · obtain ⟨a, y, rfl, _⟩ := h
    rfl
  obtain ⟨a, y, rfl, ea, q⟩ := hsp
  cases r with
  | cons r0 r =>
  cases r with
  | cons r1 r =>
  cases r
  rename_i u0 u1
  obtain rfl : u0 = Value.ref a := r0
  have KX : K.In s.heap := e0.mod.kin.keeps fun _ _ z => (e0.bs _ _ z).1
  obtain ⟨foc, fod, fosl, hf⟩ := S.fn
  obtain ⟨loc, lod, losl, hcell⟩ := S.cell
  have bK : ∀ {b : Addr} {o : Obj}, K.lookup b = some o → H b = none := fun h => (e0.bs _ _ (e0.mod.kin _ _ h)).2
  refine ks_codeAny_call_defAt (binds := [(self, .ref a), (x, u1)]) (body := supB self x f p0 p1 p2 p3 p4 p5 p6 p7 p8 p9) hr.depth (KX _ _ hf) rfl (e0.mod.nolimit.keeps fun b o e => (e0.bs b o e).1) (codeRec_of KX hcode) rfl hb hcells (fun z hz => ?_) (fun h₀ hns hkk => ?_) hco hgen hk
  · rcases List.mem_cons.mp hz with rfl | hz
    · exact ls
    · rw [List.mem_singleton.mp hz]
      exact lx
  have nx : (self == x) = false := by
    rw [beq_eq_false_iff_ne]
    exact hne
  have m0 : ([(self, Value.ref a), (x, u1)] : List (Str × Value)).reverse.lookup self = some (.ref a) := by
    show ([(x, u1), (self, Value.ref a)] : List (Str × Value)).lookup self = _
    rw [List.lookup_cons, nx, List.lookup_cons, beq_self_eq_true]
  have m1 : ([(self, Value.ref a), (x, u1)] : List (Str × Value)).reverse.lookup x = some u1 := by
    show ([(x, u1), (self, Value.ref a)] : List (Str × Value)).lookup x = _
    rw [List.lookup_cons, beq_self_eq_true]
  have cls1 : ∀ {z : Str} {c : Addr}, ([(("__class__" : Str), cc)] : List (Str × Addr)).lookup z = some c → z = "__class__" ∧ c = cc := fun {z c} h => by
    rw [List.lookup_cons] at h
    split at h
    · next hz => exact ⟨eq_of_beq hz, (Option.some.inj h).symm⟩
    · cases h
  have ok : Cx.Ok (supCx CX P w K mg base [self, x] (ksEnv qual scope s.heap.objs.size fI (.ref cda) cc) A outer s H E) := {
    mod := e0.mod
    kind := hk
    glob := rfl
    blt := rfl
    above := Nat.le_refl _
    inj := fun z z' c h h' => (cls1 h).1.trans (cls1 h').1.symm
    has := fun z hz => by
      have hz : scope.names.lookup z = some .cell ∨ scope.names.lookup z = some .free := hz
      rcases hz with hz | hz
      · exact absurd rfl (hcells _ (PySem.mem_of_lookup hz))
      · have := hfree _ (PySem.mem_of_lookup hz) rfl
        have e : z = "__class__" := this
        subst e
        exact ⟨cc, rfl⟩
    cab := fun z c h => nomatch h
    hd := fun _ => hr.hd
    frames := Around.frames_deeper e0.frames
    stk := .inr ⟨rfl, rfl⟩
    exf := fun b hb => nomatch (show b ∈ ([] : List Addr) from hb)
    bs := e0.bs
    bsz := e0.bsz
    noex := fun b _ _ hb => nomatch (show b ∈ ([] : List Addr) from hb)
    exfs := fun b hb => nomatch (show b ∈ ([] : List Addr) from hb)
    funs := e0.funs
    frf := e0.frf }
  have I : Inv (supCx CX P w K mg base [self, x] (ksEnv qual scope s.heap.objs.size fI (.ref cda) cc) A outer s H E) [] [some (.ref a), some y] H { s with heap := h₀, toks := s.toks + 2 } := {
    ok := ok
    os := rfl
    bare := e0.bare
    base := Un.kept hkk
    loc := ⟨_, hns, fun i z v h1 h2 h3 => by
      match i, h1, h2 with
      | 0, h1, h2 =>
        cases h1
        cases h2
        exact ⟨_, rfl, .inl ⟨ls, m0⟩⟩
      | 1, h1, h2 =>
        cases h1
        cases h2
        exact ⟨_, r1, .inl ⟨lx, m1⟩⟩⟩
    cell := fun z c h => by
      obtain ⟨_, rfl⟩ := cls1 h
      exact ⟨_, _, hkk _ _ (KX _ _ hcell), rfl⟩
    free := e0.hok.fresh (Nat.le_refl _)
    freeC := fun z c h => by
      obtain ⟨_, rfl⟩ := cls1 h
      exact bK hcell
    pin := fun p hp => nomatch (show p ∈ ([] : List (Addr × Obj)) from hp)
    hok := e0.hok.kept hkk
    len := rfl }
  have hself' : PE (supCx CX P w K mg base [self, x] (ksEnv qual scope s.heap.objs.size fI (.ref cda) cc) A outer s H E) (.Name self p6) (tVar 0) := pe_var (i := 0) rfl (.inl ls) hds hcs
  have hx' : PE (supCx CX P w K mg base [self, x] (ksEnv qual scope s.heap.objs.size fI (.ref cda) cc) A outer s H E) (.Name x p8) (tVar 1) := pe_var (i := 1) rfl (.inl lx) hdx hcx
  refine ks_wpAt_execs_cons (ks_wpAt_Expr_any (super_at (X := supCx CX P w K mg base [self, x] (ksEnv qual scope s.heap.objs.size fI (.ref cda) cc) A outer s H E) (y := y) S T I ea rfl rfl rfl rfl ls lx lsup lcl rfl rfl rfl har hself hdx (he _) fun s2 J => ?_) (hi _) (hs1 _))
  refine wpAt_of_wpAny (thn ((pss_one (ps_ost (f := f) (p' := p7) (pos := p9) hself' hx' (hs2 _))).run [] s2 _ H { nx := fun _ H' => Q .non H', rt := Q } J ⟨y, rfl, .ref a, rfl, a, C, rfl, T, hno, .inl ⟨ea, fun dx n1 n2 => q dx n1 n2⟩⟩) fun fl s3 hs => ?_)
  have fin : ∀ {σ' : L2.St} {H' : Hp} {v : V} {u : Value}, Inv (supCx CX P w K mg base [self, x] (ksEnv qual scope s.heap.objs.size fI (.ref cda) cc) A outer s H E) [] σ' H' s3 → L2.RelV v u → Q v H' → CE outer P w H s Q u s3 := fun {σ' H' v u} J rv q => ⟨v, H', J.os, J.bare, J.base, J.hok, rv, q⟩
  cases fl with
  | ret u =>
    obtain ⟨v, σ2, H2, J2, rv, q2⟩ := hs
    exact fin J2 rv q2
  | next =>
    obtain ⟨σ2, H2, J2, q2⟩ := hs
    exact fin (u := Value.none) (v := V.non) J2 rfl q2
  | brk =>
    obtain ⟨_, _, _, q⟩ := hs
    exact False.elim q
  | cont =>
    obtain ⟨_, _, _, q⟩ := hs
    exact False.elim q
end
end DL


/-! DX3: exceptions made as values: C(), C(x), T('m'); their fields; isinstance of them. -/
namespace DL
open PySem PySem.Spec L2 PyProof.Rows
abbrev EX : HO := .ext fun _ => True
theorem ex_ok {P : Program} {w : World} {H : Hp} {h : Heap} {a : Addr} {oe : Obj} (e : h.get? a = some oe) : ObjOk P w H h a (.frz oe EX) := ⟨e, ⟨trivial, ⟨oe, e⟩, fun _ _ _ _ => trivial⟩⟩
section
variable {X : Cx} {x : Str} {C : Addr} {p pos : Pos}
/-- what is told of a new exception of the class c, without fields -/
abbrev tErr0 (c : Value) (H : Hp) (Q : VK) : Prop := ∀ a oe, H a = none → oe.cls = c → oe.dict = none → (∃ us, oe.data = .fields us) → Q (.ref a) (upd H a (.frz oe EX))
theorem err_new {pins : List (Addr × Obj)} {σ : L2.St} {H : Hp} {s : Shared} {Q : VK} {h' : Heap} {a : Addr} {c : Value} {args : List Value} (I : Inv X pins σ H s) (hm : Heap.MadeExcOf s.heap h' a c args) (q : tErr0 c H Q) : EP X pins σ Q (.ref a) { s with heap := h' } := by
  have hn : H a = none := I.hok.gone hm.new
  obtain ⟨t, ht, _⟩ := hm.there
  exact ⟨.ref a, _, I.laidN (t' := s.toks) hm.keeps hm.new hn (ex_ok ht), rfl, q a _ hn rfl rfl ⟨_, rfl⟩⟩
/-- C(), a class of one's own without own __init__ -/
theorem pe_err0 {bmB : List Value} {B newId initId : String} (F : ExcBaseFacts B newId initId bmB) (q : PySem.W.excIn X.K C bmB newId = true) (gC : X.mg x = some (.ref C)) (kC : PySem.W.keepIn X.K (.ref C) = true) (hg : Gl X x) (hdb : (x == ("__debug__" : Str)) = false := by decide) :
    PE X (.Call (.Name x p) [] [] pos) (fun _ H Q => tErr0 (.ref C) H Q) := ⟨fun pins s σ H Q I h => wpAny_Call_Name_kw (ld_glob I hg gC (by
    refine PySem.W.callWith_K0 I.kIn kC ?_
    obtain ⟨bm, N, nm, qn, bs, hdct, sn, sub, ab, col, dd, k0, k1, k2, k3, k5, mN, hC, hN, hni, T⟩ := exc_obj I.kIn q
    exact wpAny_call_exc_subT F T hC hN hni (fun h' a hm => err_new I hm h) (show 0 ≤ sizeLine by rw [sizeLine_eq]; omega)) hdb)⟩
/-- T(e, ..), a built-in class -/
theorem pe_errB {T N I : String} {e : Expr} {es : List Expr} {ta : TA} (F : ExcB T N I) (hg : Gl X x) (hm : X.mg x = none) (hv : bootBuiltins x = some (.type T)) (ha : PA X (e :: es) ta) (hn : x ≠ "__name__" := by decide) (hdb : (x == ("__debug__" : Str)) = false := by decide)
    (hst : starEach (e :: es) X.env = (false, eval e X.env) :: starEach es X.env := by rfl) (hpl : (backTo pos (starEach es X.env)).any (·.1) = false := by rfl) :
    PE X (.Call (.Name x p) (e :: es) [] pos) (fun σ H Q => ta σ H fun vs H1 => vs.length ≤ 1000 ∧ tErr0 (.type T) H1 Q) := ⟨fun pins s σ H Q J h => wpAny_Call_Name_kw (ld_blt J hg hm hv (callWith_type1 (thn (ha.run pos pins s σ H _ J h) fun us s1 ⟨vs, H1, I1, r1, hz, q1⟩ => by
    obtain ⟨hp1, g1, d1, tk1, os1⟩ := s1
    have hl : us.length ≤ sizeLine := by
      rw [← Paired.length r1, sizeLine_eq]
      omega
    exact wpAny_call_exc F.call (fun h' a mk => err_new I1 (PySem.Heap.MadeExc.of mk) q1) hl) hst hpl) hn hdb)⟩
/-- C(e, ..), C's own __init__ keeping sp -/
theorem pe_err1 {fI : Addr} {k : Nat} {fd : FuncData} {ps : List Str} {sp : Sp} {e : Expr} {es : List Expr} {ta : TA} (T : OexC X.K C) (iC : PySem.W.findIn X.K (.ref C) "__init__" = some (some (.ref fI))) (tI : PySem.W.typeIn X.K (.ref fI) = some (.type "function"))
    (F1 : FnOk X.prog X.w X.K X.mg X.base (L2.CX X.prog X.w) k fI fd ps sp) (hr : Room (k + 1) X.A) (hb : Binds X.K fd ps []) (hg : Gl X x) (hm : X.mg x = some (.ref C)) (ha : PA X (e :: es) ta)
    (hdb : (x == ("__debug__" : Str)) = false := by decide) (hst : starEach (e :: es) X.env = (false, eval e X.env) :: starEach es X.env := by rfl) (hpl : (backTo pos (starEach es X.env)).any (·.1) = false := by rfl) :
    PE X (.Call (.Name x p) (e :: es) [] pos) (fun σ H Q => ta σ H fun vs H1 => vs.length ≤ 1000 ∧ ∀ a, H1 a = none → sp (.ref a :: vs) (upd H1 a (exo a C none)) (fun v H2 => v = .non ∧ ∃ (d : Addr) (fs : List (Str × V)), H2 a = some (exo a C (some d)) ∧ H2 d = some (exd d fs) ∧ d ≠ a ∧
      ∀ oe od, oe.cls = .ref C → oe.dict = some d → (∃ us, oe.data = .fields us) → Q (.ref a) (upd (upd H2 d (.frz od (.xd fs))) a (.frz oe EX))) (fun _ _ _ => False)) := by
  refine ⟨fun pins s σ H Q I h => wpAny_Call_Name_kw (ld_glob I hg hm (PySem.W.callWith_K (h₀ := X.base) I.ok.mod.kin T.kC (thn (ha.run pos pins s σ H _ I h) fun us s1 ⟨vs, H1, I1, r1, hz, q1⟩ => ⟨I1.kIn, ?_⟩) hst hpl) hdb)⟩
  show wpAny _ _ (call (.ref C) us) _ _ _
  obtain ⟨nm, qn, N, bs, bm, sn, sub, ab, col, dd, k0, k1, k2, k3, k5, hC, hbm⟩ := T.cls
  obtain ⟨hp, g, dr, tk, os⟩ := s1
  generalize ee : hp.objs.size + 1 = e1
  have sz : hp.objs.size ≤ e1 := by omega
  have n1 : H1 e1 = none := I1.hok.fresh sz
  have q2 := q1 e1 n1
  have kk : ∀ b o, hp.get? b = some o → ((hp.push (PySem.W.kdv_tup us)).push (PySem.HandSPX.excO C hp.objs.size)).get? b = some o := fun b o z => Heap.get?_push_of_some _ (Heap.get?_push_of_some _ z)
  have at1 : ((hp.push (PySem.W.kdv_tup us)).push (PySem.HandSPX.excO C hp.objs.size)).get? e1 = some (PySem.HandSPX.excO C hp.objs.size) := by rw [← ee]; heap_get
  have I2 := I1.laid (t' := tk) (a := e1) (o := exo e1 C none) (h' := (hp.push (PySem.W.kdv_tup us)).push (PySem.HandSPX.excO C hp.objs.size)) kk sz (exo_ok at1)
  have r2 : Vals (V.ref e1 :: vs) (Value.ref e1 :: us) := .cons rfl r1
  have hl : (Value.ref e1 :: us ++ []).length = ps.length := by
    rw [List.append_nil, ← r2.length]
    exact F1.len _ _ _ _ q2
  have hus : us.length ≤ sizeLine := by
    rw [← Paired.length r1, sizeLine_eq]
    omega
  have bb := hb _ (Value.ref e1 :: us) I2.kIn hl
  rw [List.append_nil] at bb
  rw [← ee] at q2 r2 bb I2 at1
  refine wpAny_call (PySem.HandSPX.call_own F.excBase_ValueError (fun Y => PySem.HandSPX.refsVE_contains Y bm hbm) (I1.kIn _ _ hC) (PySem.W.looks_findIn I1.kIn iC) (fun self => PySem.W.bind_fn I1.kIn self tI) hus
    (codeAny_mono (F1.run _ X.stack _ _ ⟨Value.ref (hp.objs.size + 1) :: us, []⟩ (Value.ref (hp.objs.size + 1) :: us) _ _ (fun _ _ _ => False) (hr.make C us []) (I2.env0.make C us []) bb r2 q2) fun r s2 hq => ?_))
  match r, hq with
  | .error er, hq =>
    obtain ⟨_, _, _, _, _, _, _, _, _, _, _, _, z⟩ := hq
    exact z.elim
  | .ok .next, hq => exact False.elim hq
  | .ok .brk, hq => exact False.elim hq
  | .ok .cont, hq => exact False.elim hq
  | .ok (.ret u), hq =>
    obtain ⟨v, H2, os2, bare2, un2, hok2, rv, ev, d, fs, ea, ed, hda, q3⟩ := hq
    subst ev
    refine ⟨rv, ?_⟩
    have J : Inv X pins σ H2 s2 := I1.call' (ch := []) os2 ((Un.laid kk (Nat.le_succ _) (show H1 (hp.objs.size + 1) = none by rw [ee]; exact n1)).trans un2) hok2 bare2 fun b z => nomatch z
    obtain ⟨t0, hoe⟩ := exo_at J.hok ea
    obtain ⟨mA, ⟨od, es', ep', hod, hrest⟩, rel⟩ := exd_at J.hok ed
    obtain ⟨h2, g2, d2, t2, os'⟩ := s2
    have J1 := J.write (t' := t2) (h' := h2) (x := d) (e := d) (o := .frz od (.xd fs)) (by rw [ed]; exact True.intro) (.inl rfl) (fun b o _ z => z) ⟨_, hod⟩ ⟨hod, ⟨mA, ⟨od, es', ep', hod, hrest⟩, rel⟩⟩
    have ea' : upd H2 d (.frz od (.xd fs)) (hp.objs.size + 1) = some (exo (hp.objs.size + 1) C (some d)) := by rw [upd_ne (Ne.symm hda)]; exact ea
    have J2 := J1.write (t' := t2) (h' := h2) (x := hp.objs.size + 1) (e := hp.objs.size + 1) (o := .frz _ EX) (by rw [ea']; exact True.intro) (.inl rfl) (fun b o _ z => z) ⟨_, hoe⟩ (ex_ok hoe)
    exact ⟨.ref _, _, J2, rfl, q3 _ od rfl rfl ⟨_, rfl⟩⟩
end
end DL


/-! DX4: exceptions as trees (D.err): made, their fields, isinstance; list.count(True). -/
namespace DL
open PySem PySem.Spec L2
open PyProof.Rows hiding St
/-- an exception of the class c with the fields ns, made of the arguments -/
def eErr (c : Value) (ns : List Str) (G : LS) : ES := fun ρ m => (G ρ m).bind fun l m1 => if l.length = ns.length then .ok (.err c ns l) m1 else .no
/-- an exception of a built-in class -/
def eErrB (c : Value) (G : LS) : ES := fun ρ m => (G ρ m).bind fun l m1 => if l.length ≤ 1000 then .ok (.err c [] []) m1 else .no
section
variable {X : Cx} {T : List (Addr × Str)} {W : WX} {x : Str} {cA : Addr} {p pos : Pos} {e : Expr} {es : List Expr} {G : LS} {F : ES}
theorem post_err0 {μ : List Addr} {H : Hp} {m : List C} {σ : L2.St} {c : Value} {Q : VK} (S : Sto T X.K μ H m) (q : Post (Rep X.K) T X.K W σ μ H (.ok (.err c [] []) m) Q) : tErr0 c H Q := fun a oe hn h1 h2 h3 =>
  q μ _ _ (.new hn) (S.new hn) ⟨a, oe, [], rfl, upd_same, ⟨h1, h3, .inl ⟨rfl, h2⟩⟩, rfl, rfl⟩
theorem de_err0 (E : ErrAt X.K X.mg x cA) (hg : Gl X x := by rfl) (hdb : (x == ("__debug__" : Str)) = false := by decide) : DE X T W (.Call (.Name x p) [] [] pos) (eErr (.ref cA) [] aNil) :=
  ⟨(pe_err0 PySem.F.excBase_ValueError E.e E.g E.k hg hdb).weak fun σ H Q ⟨μ, ρ, m, er, s, q⟩ => post_err0 s q⟩
theorem de_errB {T0 N I : String} (B : ExcB T0 N I) (hm : X.mg x = none) (hv : bootBuiltins x = some (.type T0)) (h : DA X T W (e :: es) G) (hg : Gl X x := by rfl) (hn : x ≠ "__name__" := by decide) (hdb : (x == ("__debug__" : Str)) = false := by decide)
    (hst : starEach (e :: es) X.env = (false, eval e X.env) :: starEach es X.env := by rfl) (hpl : (backTo pos (starEach es X.env)).any (·.1) = false := by rfl) : DE X T W (.Call (.Name x p) (e :: es) [] pos) (eErrB (.type T0) G) :=
  ⟨(pe_errB B hg hm hv h.run hn hdb hst hpl).weak fun σ H Q ⟨μ, ρ, m, er, s, q⟩ => tG_mk er s (q.bind fun l m1 μ1 H1 xs x1 s1 r1 q1 => by
    split at q1
    · rename_i hl
      exact ⟨by rw [← r1.length]; exact hl, post_err0 s1 q1⟩
    · exact q1.elim)⟩
theorem de_err1 {fI : Addr} {fd : FuncData} {self y f : Str} (O : OexC X.K cA) (iC : PySem.W.findIn X.K (.ref cA) "__init__" = some (some (.ref fI))) (tI : PySem.W.typeIn X.K (.ref fI) = some (.type "function"))
    (F1 : FnOk X.prog X.w X.K X.mg X.base (L2.CX X.prog X.w) 0 fI fd [self, y] (spX cA f)) (hr : Room 1 X.A) (hb : Binds X.K fd [self, y] []) (hm : X.mg x = some (.ref cA)) (h : DA X T W [e] G) (hg : Gl X x := by rfl) (hdb : (x == ("__debug__" : Str)) = false := by decide)
    (hst : starEach [e] X.env = (false, eval e X.env) :: starEach [] X.env := by rfl) : DE X T W (.Call (.Name x p) [e] [] pos) (eErr (.ref cA) [f] G) :=
  ⟨(pe_err1 O iC tI F1 hr hb hg hm h.run hdb hst rfl).weak fun σ H Q ⟨μ, ρ, m, er, s, q⟩ => tG_mk er s (q.bind fun l m1 μ1 H1 xs x1 s1 r1 q1 => by
    split at q1
    · rename_i hl
      match l, hl, r1, q1 with
      | [d], _, r1, q1 =>
        obtain ⟨v, rfl, rv⟩ := repL1 r1
        refine ⟨show 1 ≤ 1000 by decide, fun a hn => ⟨a, v, rfl, upd_same, fun dx hd hda => ⟨rfl, dx, [(f, v)], upd_same, ?_, hda, fun oe od h1 h2 h3 => ?_⟩⟩⟩
        · rw [upd_ne hda, upd_same]
        have hd1 : H1 dx = none := by rw [← hd, upd_ne hda]
        have fin : upd (upd (upd (upd (upd H1 a (exo a cA none)) dx (exd dx [(f, v)])) a (exo a cA (some dx))) dx (.frz od (.xd [(f, v)]))) a (.frz oe EX) = upd (upd H1 dx (.frz od (.xd [(f, v)]))) a (.frz oe EX) := by
          funext b
          by_cases h1 : b = a
          · rw [h1, upd_same, upd_same]
          · rw [upd_ne h1, upd_ne h1]
            by_cases h2 : b = dx
            · rw [h2, upd_same, upd_same]
            · rw [upd_ne h2, upd_ne h1, upd_ne h2, upd_ne h1, upd_ne h2]
        rw [fin]
        have hna : upd H1 dx (.frz od (.xd [(f, v)])) a = none := by rw [upd_ne (Ne.symm hda)]; exact hn
        have x2 : Ext μ1 H1 μ1 (upd (upd H1 dx (.frz od (.xd [(f, v)]))) a (.frz oe EX)) := (Ext.new hd1).trans (.new hna)
        refine q1 μ1 _ _ x2 ((s1.new hd1).new hna) ⟨a, oe, [v], rfl, upd_same, ⟨h1, h3, .inr ⟨dx, od, h2, ?_⟩⟩, rfl, v, [], rfl, rv.ext x2, rfl⟩
        rw [upd_ne hda, upd_same]
        rfl
    · exact q1.elim)⟩
/-! ### a field -/
/-- err.f, err of one of the own classes whose instances' fields may be read -/
noncomputable def eFldE (K : PySem.W.Frag) (f : Str) (F : ES) : ES := fun ρ m => (F ρ m).bind fun d m1 => open Classical in match d with
  | .err (.ref C) ns vs => if XfC K C ∧ PySem.W.findIn K (.ref C) f = some none then (match lookF ns vs f with
    | some y => .ok y m1
    | none => .no) else .no
  | _ => .no
theorem err_inst {pins : List (Addr × Obj)} {σ : L2.St} {H : Hp} {s : Shared} {a : Addr} {oe : Obj} {ns : List Str} {xs : List V} (I : Inv X pins σ H s) (h : H a = some (.frz oe EX)) (z : ErrO H (.ref cA) oe ns xs) :
    ∃ od, PySem.W.InstAt s.heap a oe cA od ∧ (ns ≠ [] → ∃ o dx, od = some o ∧ ∃ mA, s.heap.Ns1 dx mA ∧ s.heap.get? dx = some o ∧ ∀ f, RelO ((ns.zip xs).lookup f) (mA f)) := by
  obtain ⟨z1, ⟨us, z2⟩, z3⟩ := z
  have e1 : s.heap.get? a = some oe := (I.hok a _ h).1
  have nc : PySem.W.notCls oe = true := by
    unfold PySem.W.notCls
    rw [z2]
  rcases z3 with ⟨rfl, z4⟩ | ⟨dx, od, z4, z5⟩
  · exact ⟨none, ⟨e1, z1, nc, by rw [z4]; trivial⟩, fun q => absurd rfl q⟩
  · obtain ⟨e2, mA, e3, e4⟩ := I.hok dx _ z5
    exact ⟨some od, ⟨e1, z1, nc, by rw [z4]; exact e2⟩, fun _ => ⟨od, dx, rfl, mA, e3, e2, e4⟩⟩
def tFldE (K : PySem.W.Frag) (f : Str) (te : TE) : TE := fun σ H Q => te σ H fun x H1 => ∃ (a C : Addr) (oe : Obj) (ns : List Str) (xs : List V) (v : V), x = .ref a ∧ H1 a = some (.frz oe EX) ∧ ErrO H1 (.ref C) oe ns xs ∧ XfC K C ∧ PySem.W.findIn K (.ref C) f = some none ∧ (ns.zip xs).lookup f = some v ∧ Q v H1
theorem pe_fldE {te : TE} {f : Str} (he : PE X e te) (hb : attributeBase e f X.env (eval e X.env) = eval e X.env := by rfl) : PE X (.Attribute e f pos) (tFldE X.K f te) := ⟨fun pins s σ H Q I h => attr_of hb (thn (he.run pins s σ H _ I h) fun u s1 hh => by
  obtain ⟨x, H1, I1, rx, a, C, oe, ns, xs, v, rfl, h1, z, O, hno, l, q⟩ := hh
  obtain rfl : u = Value.ref a := rx
  obtain ⟨od, J, hd⟩ := err_inst I1 h1 z
  obtain ⟨o, dx, rfl, mA, hns, ho, rel⟩ := hd (fun e => by rw [e] at l; cases l)
  obtain ⟨o2, ho2, hl⟩ := lookIn_ns hns
  obtain rfl : o = o2 := Option.some.inj (ho.symm.trans ho2)
  obtain ⟨w, hw, rw'⟩ := RelO.some_of (v := v) (o := mA f) (by rw [← l]; exact rel f)
  exact HandSPX.exc_get I1.kIn J O.ga O.gg O.exC (PySem.W.findObj_own O.hdC hno rfl (by rw [hl, hw])) (handed_of rw') ⟨v, H1, I1.tok _, rw', q⟩)⟩
theorem de_fldE {f : Str} (h : DE X T W e F) (hb : attributeBase e f X.env (eval e X.env) = eval e X.env := by rfl) : DE X T W (.Attribute e f pos) (eFldE X.K f F) :=
  ⟨(pe_fldE h.run hb).weak fun σ H Q ⟨μ, ρ, m, er, s, q⟩ => tG_mk er s (q.bind fun d m1 μ1 H1 v x1 s1 r1 q1 => by
    split at q1
    · rename_i C ns vs
      split at q1
      · rename_i hc
        obtain ⟨a, oe, xs, rfl, h1, z, hl, rl⟩ := r1
        split at q1
        · rename_i y hy
          obtain ⟨w, hw, rw'⟩ := (lookF_rep rl hl).1 y hy
          exact ⟨a, C, oe, ns, xs, w, rfl, h1, z, hc.1, hc.2, hw, post_here s1 rw' q1⟩
        · exact q1.elim
      · exact q1.elim
    · exact q1.elim)⟩
end
end DL


/-! DX5: isinstance of an exception at hand; list.count of a bool. -/
namespace DL
open PySem PySem.Spec L2
open PyProof.Rows hiding St
/-- the classes of exceptions of which isinstance is known -/
def ErrCls (K : PySem.W.Frag) : Value → Prop
  | .ref k => ExcC K k
  | .type n => n = "ValueError"
  | _ => False
noncomputable def isXD (K : PySem.W.Frag) : FS := fun ds m => open Classical in match ds with
  | [.err c _ _, k] => if ErrCls K c then (match clsV k with
    | some cv => (match PySem.W.kitOne K c cv with
      | some b => .ok (.bl b) m
      | none => .no)
    | none => .no) else .no
  | _ => .no
def rIsX (K : PySem.W.Frag) : List V → Hp → VK → Prop := fun xs H Q => ∃ (a : Addr) (c : Value) (oe : Obj) (ns : List Str) (vs : List V) (t : V) (cv : Value) (b : Bool), xs = [.ref a, t] ∧ H a = some (.frz oe EX) ∧ ErrO H c oe ns vs ∧ ErrCls K c ∧ (∀ u, RelV t u → u = cv) ∧ PySem.W.kitOne K c cv = some b ∧ Q (.bl b) H
section
variable {X : Cx} {T : List (Addr × Str)}
theorem bexc_kit {K : PySem.W.Frag} {a : Addr} : PySem.W.KitX K (.ref a) (.type "ValueError") (PySem.W.KitAt a "ValueError") :=
  PySem.W.kitx_bexc PySem.F.excAttr_ValueError (by rw [typeLookup_type, builtinLookup_eq_fast]; kernel_rfl) (by rw [isSubtype_type]; kernel_rfl) (by decide +kernel)
theorem call_isX : CallR X (.builtin "isinstance") (rIsX X.K) := by
  intro pins s σ H xs us Q I r h
  obtain ⟨a, c, oe, ns, vs, t, cv, b, rfl, h1, z, hc, ht, e, q⟩ := h
  cases r with
  | cons rx rr =>
  cases rr with
  | cons rt rr =>
  cases rr
  cases rx
  have et := ht _ rt
  subst et
  have fin : ∀ tk, EP X pins σ Q (.bool b) { s with toks := tk } := fun tk => ⟨.bl b, H, I.kept (t' := tk) fun _ _ z => z, rfl, q⟩
  cases c with
  | ref k =>
    have E : ExcC X.K k := hc
    obtain ⟨od, J, _⟩ := err_inst I h1 z
    have hcl : (PySem.W.clsIn X.K k).isSome = true := by
      obtain ⟨cd, hcd, _⟩ := PySem.W.any_some E.hd
      rw [hcd]
      rfl
    exact PySem.W.kia_one (PySem.W.kitx_exc hcl E.hg E.hk E.hs E.ha E.hn E.ht E.hm) I.kIn J e (fun z => nomatch z) fin
  | type n =>
    have en : n = "ValueError" := hc
    subst en
    exact PySem.W.kia_one bexc_kit I.kIn ⟨oe, (I.hok a _ h1).1, z.1⟩ e (fun z => nomatch z) fin
  | _ => exact hc.elim
theorem isXD_ok : ArD X T (isXD X.K) (rIsX X.K) := by
  intro W σ μ H m ds xs Q S r q
  unfold isXD at q
  split at q
  · obtain ⟨v, u, rfl, r1, r2⟩ := repL2 r
    split at q
    · rename_i hc
      obtain ⟨a, oe, ys, rfl, h1, z, hl, rl⟩ := r1
      split at q
      · rename_i cv hk
        split at q
        · rename_i b hb
          refine ⟨a, _, oe, _, ys, u, cv, b, rfl, h1, z, hc, ?_, hb, post_here (rp := Rep X.K) S (show Rep X.K μ H (.bl b) (.bl b) from rfl) q⟩
          unfold clsV at hk
          split at hk <;> cases hk <;> cases r2 <;> exact fun u h => h
        · exact q.elim
      · exact q.elim
    · exact q.elim
  · exact q.elim
/-! ### l.count(True) -/
def countBD : D → List D → List C → R D := fun d ds m => match lstOf m d, ds with
  | some l, [.bl b] => (match bools l with
    | some bs => .ok (.int (bs.count b : Nat)) m
    | none => .no)
  | _, _ => .no
def rCntB (K : PySem.W.Frag) : V → List V → Hp → VK → Prop := fun x xs H Q => ∃ (p : Addr) (bs : List Bool) (b : Bool), x = .ref p ∧ xs = [.bl b] ∧ SqL K H p (bs.map V.bl) ∧ Q (.int (bs.count b : Nat)) H
def eqB (b : Bool) (v : Value) : Bool := match v with
  | .bool c => c == b
  | _ => false
theorem bools_vals : ∀ {bs : List Bool} {us : List Value}, Vals (bs.map V.bl) us → us = bs.map Value.bool
  | [], _, h => by cases h; rfl
  | b :: bs, _, h => by
    cases h with
    | cons a r =>
      rw [show _ = Value.bool b from a, bools_vals r]
      rfl
theorem eqB_count (b : Bool) : ∀ bs : List Bool, (bs.map Value.bool).countP (eqB b) = bs.count b
  | [] => rfl
  | c :: bs => by
    rw [List.map_cons, List.countP_cons, List.count_cons, eqB_count b bs]
    rfl
theorem mt_countB : MtR X "list.count" (rCntB X.K) := by
  intro pins s σ H x xs v us Q I rx rxs h
  obtain ⟨p, bs, b, rfl, rfl, hs, q⟩ := h
  cases rx
  obtain ⟨u, rfl, ru⟩ := rxs.one
  obtain rfl : u = Value.bool b := ru
  obtain ⟨its, rv, ⟨⟨cls, dd, data, sl⟩, n, ho, hc, hdn, hd⟩, hlen⟩ := I.list hs
  dsimp only at hc hd
  subst hc hd
  have hi := bools_vals rv
  refine call_meets PySem.F.slot_list_count ⟨_, ho, rfl⟩ PySem.F.entry_list_count (PySem.F.args_list_count_2 _ _)
    (SeqAt.list_countAt p its.toArray n dd sl (.bool b) (eqB b)) ⟨ho, fun y hy => ?_, ?_⟩
  · have hy' : y ∈ its := by simpa using hy
    rw [hi] at hy'
    obtain ⟨c, _, rfl⟩ := List.mem_map.mp hy'
    exact SeqAt.EqAt.bool_bool c b
  · have ec : its.toArray.toList.countP (eqB b) = bs.count b := by rw [List.toList_toArray, hi]; exact eqB_count b bs
    exact ⟨.int (bs.count b : Nat), H, I.tok _, ⟨s.toks, by rw [ec]⟩, q⟩
theorem countBD_ok : MtD X T countBD (rCntB X.K) := by
  intro W σ μ H m d ds x xs Q S r1 r2 q
  unfold countBD at q
  split at q
  · rename_i l b hl
    obtain ⟨v, rfl, rb⟩ := repL1 r2
    split at q
    · rename_i bs hb
      obtain ⟨a, ys, rfl, hs, rl⟩ := lstOf_rep S r1 hl
      have ey := bools_rep rl hb
      subst ey
      exact ⟨a, bs, b, rfl, by rw [show v = V.bl b from rb], hs, post_here (rp := Rep X.K) S (show Rep X.K μ H (.int (bs.count b : Nat)) (.int (bs.count b : Nat)) from rfl) q⟩
    · exact q.elim
  · exact q.elim
end
end DL


/-! DX6: a class of exceptions with such an __init__, as the top has left it. -/
namespace DL
open PySem PySem.Spec L2
open PyProof.Rows hiding St
/-- such a class by its name; its instances' one field -/
structure InitAt (P : Program) (K : PySem.W.Frag) (mg : Str → Option Value) (x : Str) (c : Addr) (f : Str) where
  fI : Addr
  fd : FuncData
  self : Str
  y : Str
  g : mg x = some (.ref c)
  O : OexC K c
  iC : PySem.W.findIn K (.ref c) "__init__" = some (some (.ref fI))
  tI : PySem.W.typeIn K (.ref fI) = some (.type "function")
  F : ∀ (w : World) (base : Heap), FnOk P w K mg base (L2.CX P w) 0 fI fd [self, y] (spX c f)
  b : Binds K fd [self, y] []
theorem de_errI {X : Cx} {T : List (Addr × Str)} {W : WX} {x f : Str} {c : Addr} {p pos : Pos} {e : Expr} {G : LS} (I : InitAt X.prog X.K X.mg x c f) (hr : Room 1 X.A) (h : DA X T W [e] G) (hg : Gl X x := by rfl) (hdb : (x == ("__debug__" : Str)) = false := by decide)
    (hst : starEach [e] X.env = (false, eval e X.env) :: starEach [] X.env := by rfl) : DE X T W (.Call (.Name x p) [e] [] pos) (eErr (.ref c) [f] G) := de_err1 I.O I.iC I.tI (I.F X.w X.base) hr I.b I.g h hg hdb hst
/-- the class's object -/
def oexB (K : PySem.W.Frag) (C : Addr) : Bool := match K.lookup C with
  | some o => o.cls == .type "type" && (match o.data with
    | .cls cd => cd.hasDict && (!cd.hasDel && (match cd.mro with
      | .ref D :: bm => D == C && HandSPX.refsVE bm
      | _ => false))
    | _ => false) && (match o.slots.toList with
    | [_, _, _, _, some (.builtin n), _] => n == "ValueError.__new__"
    | _ => false)
  | none => false
theorem oexB_ok {K : PySem.W.Frag} {C : Addr} (h : oexB K C = true) : ∃ nm q N bs bm sn sub ab col dd k0 k1 k2 k3 k5, K.lookup C = some (excClassObj nm q C N bs bm true sn sub ab col dd k0 k1 k2 k3 k5 "ValueError.__new__") ∧ PySem.HandSPX.refsVE bm = true := by
  unfold oexB at h
  cases hk : K.lookup C with
  | none => rw [hk] at h; cases h
  | some o =>
    rw [hk] at h
    obtain ⟨oc, od, data, sl⟩ := o
    dsimp only at h
    simp only [Bool.and_eq_true] at h
    obtain ⟨⟨h1, h2⟩, h3⟩ := h
    cases data with
    | cls cd =>
      obtain ⟨cn, cb, cm, cns, cq, chd, csn, csub, cab, ccol, chdel⟩ := cd
      simp only [Bool.and_eq_true] at h2
      obtain ⟨h4, h5, h6⟩ := h2
      match cm, h6 with
      | .ref D :: bm, h6 =>
        have h6 : (D == C && HandSPX.refsVE bm) = true := h6
        rw [Bool.and_eq_true] at h6
        obtain ⟨l⟩ := sl
        match l, h3 with
        | [k0, k1, k2, k3, some (.builtin n), k5], h3 =>
          have e1 : oc = .type "type" := eq_of_beq h1
          have e2 : n = "ValueError.__new__" := eq_of_beq h3
          have e3 : D = C := eq_of_beq h6.1
          have e4 : chd = true := h4
          have e5 : chdel = false := by
            have h5 : (!chdel) = true := h5
            cases chdel <;> first | rfl | cases h5
          subst e1 e2 e3 e4 e5
          exact ⟨_, _, _, _, _, _, _, _, _, _, _, _, _, _, _, rfl, h6.2⟩
    | _ => cases h2
/-- the file of the code object is the program's own -/
def fileB (P : Program) (K : PySem.W.Frag) (cda : Addr) : Bool := match K.lookup cda with
  | some o => (match o.data with
    | .fields vs => (match (vs[2]? : Option Value) with
      | some (.str file _) => P.main.file == file
      | _ => false)
    | _ => false)
  | none => false
theorem fileB_ok {P : Program} {K : PySem.W.Frag} {cda : Addr} (h : fileB P K cda = true) : ∃ (oc : Value) (od : Option Addr) (osl : Array (Option Value)) (vs : Array Value) (file : Str) (tf : Tok), K.lookup cda = some ⟨oc, od, .fields vs, osl⟩ ∧ vs[2]? = some (.str file tf) ∧ ((P.main.file : Str) == file) = true := by
  unfold fileB at h
  cases hk : K.lookup cda with
  | none => rw [hk] at h; cases h
  | some o =>
    rw [hk] at h
    obtain ⟨oc, od, data, sl⟩ := o
    dsimp only at h
    cases data with
    | fields vs =>
      dsimp only at h
      split at h
      · rename_i file tf hv
        exact ⟨oc, od, sl, vs, file, tf, rfl, hv, h⟩
      · cases h
    | _ => cases h
end DL


/-! DX7: InitAt of what the top has left. -/
namespace DL
open PySem PySem.Spec L2 PySem.W
open PyProof.Rows hiding St
/-- what the text of such an __init__ must be -/
structure InitTx (slf y : Str) (params : Arguments) (scope : Scope) (p0 p1 p2 p3 p4 p5 p6 p7 p8 p9 : Pos) (f qual : Str) : Prop where
  hk : scope.kind = .function
  hco : scope.isCoroutine = false
  hgen : scope.isGenerator = false
  hcells : ∀ z ∈ scope.names, z.2 ≠ .cell
  hfree : ∀ z ∈ scope.names, z.2 = .free → z.1 = "__class__"
  ls : scope.names.lookup slf = some .local
  lx : scope.names.lookup y = some .local
  lsup : scope.names.lookup ("super" : Str) = some .globalImplicit
  lcl : scope.names.lookup ("__class__" : Str) = some .free
  har : ∃ ar, (params.posonlyargs ++ params.args).head? = some ar ∧ ar.arg = slf
  hne : slf ≠ y
  hdx : (y == ("__debug__" : Str)) = false
  hds : (slf == ("__debug__" : Str)) = false
  hcx : (y == ("__classdict__" : Str)) = false
  hcs : (slf == ("__classdict__" : Str)) = false
  he : ∃ pl : Nat → Addr → Addr → Addr → Sem Bool, ∀ L fI cda cc, eval (supE y p0 p1 p2 p3 p4) (ksEnv qual scope L fI (.ref cda) cc) = (do
      let ov ← attributeBase (.Call (.Name "super" p0) [] [] p1) "__init__" (ksEnv qual scope L fI (.ref cda) cc) (eval (.Call (.Name "super" p0) [] [] p1) (ksEnv qual scope L fI (.ref cda) cc))
      standAt p2.atName
      let (fn, first) ← holding [ov] (getMethod ov "__init__" (pl L fI cda cc))
      callWith p4 fn first (backTo p4 (starEach [.Name y p3] (ksEnv qual scope L fI (.ref cda) cc))) [])
  hi : ∀ L fI cda cc, interactive (ksEnv qual scope L fI (.ref cda) cc) = false
  hs1 : ∀ L fI cda cc, swapsWith (supE y p0 p1 p2 p3 p4) none p5.line (ksEnv qual scope L fI (.ref cda) cc) = pure false
  hs2 : ∀ L fI cda cc, swapsWith (.Name y p8) (some (.Attribute (.Name slf p6) f p7)) p9.line (ksEnv qual scope L fI (.ref cda) cc) = pure false
/-- what the top has left of such a class -/
structure InitLf (P : Program) (K : PySem.W.Frag) (mg : Str → Option Value) (x : Str) (c fI cda cc : Addr) (f qual : Str) : Prop where
  g : mg x = some (.ref c)
  o1 : oexB K c = true
  o2 : findIn K (.ref c) "__setattr__" = some (some (.builtin "object.__setattr__"))
  o3 : subIn K (.ref c) (.type "BaseException") = some true
  o4 : typeIn K (.ref c) = some (.type "type")
  o5 : keepIn K (.ref c) = true
  iC : findIn K (.ref c) "__init__" = some (some (.ref fI))
  tI : typeIn K (.ref fI) = some (.type "function")
  code : codeIn K (.ref cda) qual = true
  file : fileB P K cda = true
  cell : ∃ (oc : Value) (od : Option Addr) (osl : Array (Option Value)), K.lookup cc = some ⟨oc, od, .cell (some (.ref c)), osl⟩
  sub : mroIn K c (.ref c) = some true
  sup : mg "super" = none
  top : (P.main.scope.names.lookup ("super" : Str)).isSome = false
  op : nsIn K cStatics "thirdparty.any" = some none
  al : ks_superIn K c c "__init__" = some (some (.builtin "ValueError.__init__"))
  sv : subIn K (.ref c) (.type "ValueError") = some true
  hno : findIn K (.ref c) f = some none
def initAt_mk {P : Program} {K : PySem.W.Frag} {mg : Str → Option Value} {x : Str} {c fI cda cc : Addr} {f qual self y : Str} {params : Arguments} {scope : Scope} {kV doc pm ct oc : Value} {an od : Option Addr} {osl : Array (Option Value)} {p0 p1 p2 p3 p4 p5 p6 p7 p8 p9 : Pos}
    (lk : K.lookup fI = some ⟨oc, od, .func (ksFn "__init__" qual params (supB self y f p0 p1 p2 p3 p4 p5 p6 p7 p8 p9) scope .none kV doc pm an (.ref cda) ct cc), osl⟩)
    (t : InitTx self y params scope p0 p1 p2 p3 p4 p5 p6 p7 p8 p9 f qual) (l : InitLf P K mg x c fI cda cc f qual)
    (hb : ∀ us : List Value, us.length = 2 → bindArgs (ksFn "__init__" qual params (supB self y f p0 p1 p2 p3 p4 p5 p6 p7 p8 p9) scope .none kV doc pm an (.ref cda) ct cc) ⟨us, []⟩ = pure ([self, y].zip us)) : InitAt P K mg x c f where
  fI := fI
  fd := ksFn "__init__" qual params (supB self y f p0 p1 p2 p3 p4 p5 p6 p7 p8 p9) scope .none kV doc pm an (.ref cda) ct cc
  self := self
  y := y
  g := l.g
  O := ⟨oexB_ok l.o1, l.o2, l.o3, l.o4, l.o5⟩
  iC := l.iC
  tI := l.tI
  F := fun w base => by
    obtain ⟨ar, h1, h2⟩ := t.har
    obtain ⟨pl, he⟩ := t.he
    exact ok_sup ⟨⟨oc, od, osl, lk⟩, fileB_ok l.file, l.cell, l.sub, l.sup, l.top, l.op, l.al, l.sv⟩ ⟨oexB_ok l.o1, l.o2, l.o3, l.o4, l.o5⟩ l.hno l.code t.hk t.hco t.hgen t.hcells t.hfree t.ls t.lx t.lsup t.lcl h1 h2 t.hne t.hdx t.hds t.hcx t.hcs (pl := fun L => pl L fI cda cc) (fun L => he L fI cda cc) (fun L => t.hi L fI cda cc) (fun L => t.hs1 L fI cda cc) fun L => t.hs2 L fI cda cc
  b := .all hb
/-- the same, the class by its name -/
def init_cl {P : Program} {K : PySem.W.Frag} {mg : Str → Option Value} {x f : Str} {c : Addr} (I : InitAt P K mg x c f) : InitAt P K mg x (clM mg x) f := by
  rw [clM_of I.g]
  exact I
/-! ### these facts, to be looked at at once -/
def errB (K : PySem.W.Frag) (c : Addr) : Bool := excIn K c [.type "ValueError", .type "Exception", .type "BaseException", .type "object"] "ValueError.__new__" && (keepIn K (.ref c) && (decide (subIn K (.ref c) (.type "BaseException") = some true) && decide (typeIn K (.ref c) = some (.type "type"))))
theorem errB_ok {K : PySem.W.Frag} {c : Addr} (h : errB K c = true) : excIn K c [.type "ValueError", .type "Exception", .type "BaseException", .type "object"] "ValueError.__new__" = true ∧ keepIn K (.ref c) = true ∧ subIn K (.ref c) (.type "BaseException") = some true ∧ typeIn K (.ref c) = some (.type "type") := by
  unfold errB at h
  simp only [Bool.and_eq_true, decide_eq_true_eq] at h
  exact h
def iniB (P : Program) (K : PySem.W.Frag) (c cda : Addr) (qual f : Str) : Bool := codeIn K (.ref cda) qual && (fileB P K cda && (decide (mroIn K c (.ref c) = some true) && (decide (ks_superIn K c c "__init__" = some (some (.builtin "ValueError.__init__"))) && (decide (subIn K (.ref c) (.type "ValueError") = some true) &&
  (decide (findIn K (.ref c) f = some none) && (oexB K c && (decide (findIn K (.ref c) "__setattr__" = some (some (.builtin "object.__setattr__"))) && (decide (subIn K (.ref c) (.type "BaseException") = some true) && (decide (typeIn K (.ref c) = some (.type "type")) && keepIn K (.ref c))))))))))
theorem initLf_mk {P : Program} {K : PySem.W.Frag} {mg : Str → Option Value} {x : Str} {c fI cda cc : Addr} {f qual : Str} {oc : Value} {od : Option Addr} {osl : Array (Option Value)} (h : iniB P K c cda qual f = true) (g : mg x = some (.ref c)) (iC : findIn K (.ref c) "__init__" = some (some (.ref fI))) (tI : typeIn K (.ref fI) = some (.type "function"))
    (cell : K.lookup cc = some ⟨oc, od, .cell (some (.ref c)), osl⟩) (sup : mg "super" = none) (top : (P.main.scope.names.lookup ("super" : Str)).isSome = false) (op : nsIn K cStatics "thirdparty.any" = some none) : InitLf P K mg x c fI cda cc f qual := by
  unfold iniB at h
  simp only [Bool.and_eq_true, decide_eq_true_eq] at h
  obtain ⟨h1, h2, h3, h4, h5, h6, h7, h8, h9, ha, hb⟩ := h
  exact ⟨g, h7, h8, h9, ha, hb, iC, tI, h1, h2, ⟨_, _, _, cell⟩, h3, sup, top, op, h4, h5, h6⟩
end DL


/-! DX8: zip whose pairs are kept (list(zip(a, b))). -/
namespace DL
open PySem PySem.Calls
section
variable {prog : Program} {w : World} {A : Around} {E : Value → Shared → Prop} {s : Shared}
theorem wpAny_alive {M : Model} {a : Addr} {Q : Option Obj → Shared → Prop} (h : Q (s.heap.get? a) s) : wpAny M A (loadIfAlive a) Q E s := fun Γ p _ => by
  show Sem.wp M Γ (.loadIfAlive a .pure) _ _ p s
  rw [Sem.wp_loadIfAlive]
  exact h
/-- a zip that has handed its own tuple out -/
abbrev ZipK (h : Heap) (z TI TO T0 : Addr) (b : Bool) : Prop := h.get? z = some { cls := .type "zip", dict := none, data := .fields #[rawInt T0, .bool b, .bool false, .ref TI, .ref TO], slots := #[] }
theorem own_kept {z TI TO T0 : Addr} {b : Bool} {oT : Obj} {Q : Bool → Shared → Prop} (hz : ZipK s.heap z TI TO T0 b) (hT : s.heap.get? T0 = some oT)
    (h : ∀ h', ZipK h' z TI TO T0 true → Heap.SameBut z s.heap h' → Q false { s with heap := h' }) : wpAny (model prog w) A (Builtin.SmallTypes.ownedTupleIsFree (.ref z)) Q E s := by
  unfold Builtin.SmallTypes.ownedTupleIsFree
  refine wpAny_bind (wpAny_field hz rfl (x := rawInt T0) rfl ?_)
  show wpAny _ _ (loadIfAlive ((T0 : Int).toNat) >>= _) _ _ _
  refine wpAny_bind (wpAny_alive ?_)
  rw [Int.toNat_natCast, hT]
  dsimp only [Option.isNone]
  rw [if_neg Bool.false_ne_true]
  refine wpAny_bind (wpAny_field hz rfl (x := .bool b) rfl ?_)
  cases b with
  | true => exact wpAny_pure (h s.heap hz ⟨rfl, fun _ _ => rfl⟩)
  | false =>
    refine wpAny_bind (wpAny_setField_rec hz (by simp) fun h1 hz1 hs1 => wpAny_pure (h h1 hz1 hs1))
/-- the next pair of such a zip is a new tuple -/
theorem zipK_item {z TI TO i1 i2 l1 l2 T0 : Addr} {b : Bool} {oT : Obj} {k1 k2 : Nat} {xs ys : Array Value} {x y : Value} {Q : Value → Shared → Prop} (D : ZipApart z TI TO i1 i2 l1 l2)
    (hz : ZipK s.heap z TI TO T0 b) (hT : s.heap.get? T0 = some oT) (hTI : IsPair s.heap TI (.ref i1) (.ref i2))
    (h1 : s.heap.IsListIter i1 l1 k1) (h2 : s.heap.IsListIter i2 l2 k2) (hl1 : s.heap.IsList l1 xs) (hl2 : s.heap.IsList l2 ys) (hx : xs[k1]? = some x) (hy : ys[k2]? = some y)
    (hQ : ∀ h', ZipK h' z TI TO T0 true → h'.IsListIter i1 l1 (k1 + 1) → h'.IsListIter i2 l2 (k2 + 1) → IsPair h' s.heap.objs.size x y → h'.objs.size = s.heap.objs.size + 1 →
      (∀ c o, c ≠ z → c ≠ i1 → c ≠ i2 → s.heap.get? c = some o → h'.get? c = some o) → Q (.ref s.heap.objs.size) { s with heap := h' }) :
    wpAny (model prog w) A (Builtin.«zip.__next__» ⟨[.ref z], []⟩) (fun fin s' => ∃ v, fin = .done (.ret v) ∧ Q v s') E s := by
  show wpAny _ _ (field (.ref z) 2 >>= fun _ => field (.ref z) 3 >>= _) _ _ _
  refine wpAny_bind (wpAny_field hz rfl (x := .bool false) rfl (wpAny_bind (wpAny_field hz rfl (x := .ref TI) rfl (wpAny_bind (wpAny_seqItems hTI rfl ?_)))))
  show wpAny _ _ (Builtin.SmallTypes.ownedTupleIsFree (.ref z) >>= fun _ => _) _ _ _
  refine wpAny_bind (own_kept hz hT fun g1 z1 s1 => ?_)
  have a1 : g1.IsListIter i1 l1 k1 := h1.extBut s1.extBut D.i1z
  have a2 : g1.IsList l1 xs := hl1.extBut s1.extBut D.l1z
  have b1 : g1.IsListIter i2 l2 k2 := h2.extBut s1.extBut D.i2z
  have b2 : g1.IsList l2 ys := hl2.extBut s1.extBut D.l2z
  rw [if_neg Bool.false_ne_true]
  dsimp only
  refine wpAny_bind ?_
  rw [← Array.forIn_toList]
  simp only [List.forIn_cons, List.forIn_nil]
  refine wpAny_bind (wpAny_bind (wpAny_holding ?_))
  show wpAny _ _ (Builtin.SmallTypes.nextOf (.ref i1) >>= fun v => pure (some v)) _ _ _
  refine wpAny_bind (wpAny_nextOf_list_item a1 a2 hx fun g2 c1 s2 => wpAny_pure (wpAny_pure ?_))
  dsimp only
  refine wpAny_bind (wpAny_bind (wpAny_holding ?_))
  show wpAny _ _ (Builtin.SmallTypes.nextOf (.ref i2) >>= fun v => pure (some v)) _ _ _
  refine wpAny_bind (wpAny_nextOf_list_item (b1.extBut s2.extBut D.i12.symm) (b2.extBut s2.extBut D.l2i1) hy fun g3 c2 s3 => wpAny_pure (wpAny_pure ?_))
  dsimp only
  refine wpAny_pure ?_
  dsimp only
  refine wpAny_bind (wpAny_newTuple (hsz := show 2 ≤ sizeLine by decide) ?_)
  have hsz : g3.objs.size = s.heap.objs.size := by rw [s3.1, s2.1, s1.1]
  have up : ∀ c o, c ≠ z → c ≠ i1 → c ≠ i2 → s.heap.get? c = some o → g3.get? c = some o := fun c o n1 n2 n3 e => s3.extBut _ _ n3 (s2.extBut _ _ n2 (s1.extBut _ _ n1 e))
  refine wpAny_pure ⟨_, rfl, ?_⟩
  show Q (.ref g3.objs.size) _
  rw [hsz]
  refine hQ _ (Heap.get?_push_of_some _ (s3.extBut _ _ D.i2z.symm (s2.extBut _ _ D.i1z.symm z1))) ((c1.extBut s3.extBut D.i12).at fun o e => Heap.get?_push_of_some _ e) (c2.at fun o e => Heap.get?_push_of_some _ e) ?_ ?_ fun c o n1 n2 n3 e => Heap.get?_push_of_some _ (up c o n1 n2 n3 e)
  · have this : (g3.push { cls := .type "tuple", data := .seq #[x, y] }).get? g3.objs.size = some { cls := .type "tuple", data := .seq #[x, y] } := Heap.get?_push_size _ rfl
    rw [hsz] at this
    exact this
  · rw [Heap.size_push, hsz]
theorem zipK_end {z TI TO i1 i2 l1 l2 T0 : Addr} {b : Bool} {oT : Obj} {k1 : Nat} {xs : Array Value} {Q : Fin → Shared → Prop} (hh : A.handled = none) (D : ZipApart z TI TO i1 i2 l1 l2)
    (hz : ZipK s.heap z TI TO T0 b) (hT : s.heap.get? T0 = some oT) (hTI : IsPair s.heap TI (.ref i1) (.ref i2))
    (h1 : s.heap.IsListIter i1 l1 k1) (hl1 : s.heap.IsList l1 xs) (hx : xs[k1]? = none)
    (hE : ∀ h' e, (∀ c o, c ≠ z → c ≠ i1 → s.heap.get? c = some o → h'.get? c = some o) → (∃ o, h'.get? e = some o ∧ o.cls = .type "StopIteration") → E (.ref e) { s with heap := h' }) :
    wpAny (model prog w) A (Builtin.«zip.__next__» ⟨[.ref z], []⟩) Q E s := by
  show wpAny _ _ (field (.ref z) 2 >>= fun _ => field (.ref z) 3 >>= _) _ _ _
  refine wpAny_bind (wpAny_field hz rfl (x := .bool false) rfl (wpAny_bind (wpAny_field hz rfl (x := .ref TI) rfl (wpAny_bind (wpAny_seqItems hTI rfl ?_)))))
  show wpAny _ _ (Builtin.SmallTypes.ownedTupleIsFree (.ref z) >>= fun _ => _) _ _ _
  refine wpAny_bind (own_kept hz hT fun g1 z1 s1 => ?_)
  rw [if_neg Bool.false_ne_true]
  dsimp only
  refine wpAny_bind ?_
  rw [← Array.forIn_toList]
  simp only [List.forIn_cons, List.forIn_nil]
  refine wpAny_bind (wpAny_bind (wpAny_holding ?_))
  show wpAny _ _ (Builtin.SmallTypes.nextOf (.ref i1) >>= fun v => pure (some v)) _ _ _
  refine wpAny_bind (wpAny_nextOf_list_end hh (h1.extBut s1.extBut D.i1z) (hl1.extBut s1.extBut D.l1z) hx fun g2 e s2 he => ?_)
  exact hE g2 e (fun c o n1 n2 q => s2 _ _ n2 (s1.extBut _ _ n1 q)) he
theorem next_item {z TI TO i1 i2 l1 l2 T0 : Addr} {b : Bool} {oT : Obj} {k1 k2 : Nat} {xs ys : Array Value} {x y : Value} {Q : Option Value → Shared → Prop} (D : ZipApart z TI TO i1 i2 l1 l2)
    (hz : ZipK s.heap z TI TO T0 b) (hT : s.heap.get? T0 = some oT) (hTI : IsPair s.heap TI (.ref i1) (.ref i2))
    (h1 : s.heap.IsListIter i1 l1 k1) (h2 : s.heap.IsListIter i2 l2 k2) (hl1 : s.heap.IsList l1 xs) (hl2 : s.heap.IsList l2 ys) (hx : xs[k1]? = some x) (hy : ys[k2]? = some y)
    (hQ : ∀ h', ZipK h' z TI TO T0 true → h'.IsListIter i1 l1 (k1 + 1) → h'.IsListIter i2 l2 (k2 + 1) → IsPair h' s.heap.objs.size x y → h'.objs.size = s.heap.objs.size + 1 →
      (∀ c o, c ≠ z → c ≠ i1 → c ≠ i2 → s.heap.get? c = some o → h'.get? c = some o) → Q (some (.ref s.heap.objs.size)) { s with heap := h' }) : wpAny (model prog w) A (pyNext (.ref z)) Q E s := by
  have ty : s.TypeIs (.ref z) "zip" := ⟨_, hz, rfl⟩
  unfold pyNext
  refine wpAny_bind (wpAny_attempt (wpAny_callSpecial?_slot (name := Str.ofString "__next__") ty F.slot_zip_next (wpAny_call_entry F.slot_zip_next ty F.entry_zip_next ?_ (F.args_zip_next_1 _))))
  exact zipK_item D hz hT hTI h1 h2 hl1 hl2 hx hy fun h' q1 q2 q3 q4 q5 q6 => wpAny_pure (hQ h' q1 q2 q3 q4 q5 q6)
theorem next_end {z TI TO i1 i2 l1 l2 T0 : Addr} {b : Bool} {oT : Obj} {k1 : Nat} {xs : Array Value} {Q : Option Value → Shared → Prop} (hh : A.handled = none) (D : ZipApart z TI TO i1 i2 l1 l2)
    (hz : ZipK s.heap z TI TO T0 b) (hT : s.heap.get? T0 = some oT) (hTI : IsPair s.heap TI (.ref i1) (.ref i2))
    (h1 : s.heap.IsListIter i1 l1 k1) (hl1 : s.heap.IsList l1 xs) (hx : xs[k1]? = none)
    (hQ : ∀ h', (∀ c o, c ≠ z → c ≠ i1 → s.heap.get? c = some o → h'.get? c = some o) → Q none { s with heap := h' }) : wpAny (model prog w) A (pyNext (.ref z)) Q E s := by
  have ty : s.TypeIs (.ref z) "zip" := ⟨_, hz, rfl⟩
  unfold pyNext
  refine wpAny_bind (wpAny_attempt (wpAny_callSpecial?_slot (name := Str.ofString "__next__") ty F.slot_zip_next (wpAny_call_entry F.slot_zip_next ty F.entry_zip_next (zipK_end hh D hz hT hTI h1 hl1 hx fun h' e hk he => ?_) (F.args_zip_next_1 _))))
  obtain ⟨o, ho, hc⟩ := he
  exact wpAny_bind (wpAny_isInstance (b := true) (T := "StopIteration") ⟨o, ho, hc⟩ isSubtype_stop (wpAny_pure (hQ _ hk)))
end
end DL


/-! DX9: the walk of list(zip(a, b)). -/
namespace DL
open PySem PySem.Calls
/-- amid list(zip(l1, l2)): i pairs are in the list at S -/
structure ZipL (h : Heap) (z TI TO i1 i2 l1 l2 T0 S : Addr) (xs ys : Array Value) (i : Nat) (Ts : List Addr) : Prop where
  zk : ∃ b, ZipK h z TI TO T0 b
  t0 : ∃ o, h.get? T0 = some o
  ti : IsPair h TI (.ref i1) (.ref i2)
  j1 : h.IsListIter i1 l1 i
  j2 : h.IsListIter i2 l2 i
  la : h.IsList l1 xs
  lb : h.IsList l2 ys
  ps : ∀ (j : Nat) (T : Addr), Ts[j]? = some T → ∃ x y, xs[j]? = some x ∧ ys[j]? = some y ∧ IsPair h T x y
  ne : ∀ T ∈ Ts, T ≠ z ∧ T ≠ i1 ∧ T ≠ i2 ∧ T ≠ S
  nd : Ts.Nodup
  len : Ts.length = i
section
variable {prog : Program} {w : World} {A : Around} {E : Value → Shared → Prop} {R : Result → Shared → Prop} {z TI TO i1 i2 l1 l2 T0 S : Addr} {xs ys : Array Value} {n : Nat}
theorem ZipL.put {h g : Heap} {i : Nat} {Ts : List Addr} (Z : ZipL h z TI TO i1 i2 l1 l2 T0 S xs ys i Ts) (k : ∀ c o, c ≠ S → h.get? c = some o → g.get? c = some o) (sa : S ≠ z ∧ S ≠ i1 ∧ S ≠ i2 ∧ S ≠ TI ∧ S ≠ T0 ∧ S ≠ l1 ∧ S ≠ l2) : ZipL g z TI TO i1 i2 l1 l2 T0 S xs ys i Ts where
  zk := by
    obtain ⟨b, e⟩ := Z.zk
    exact ⟨b, k _ _ sa.1.symm e⟩
  t0 := by
    obtain ⟨o, e⟩ := Z.t0
    exact ⟨o, k _ _ sa.2.2.2.2.1.symm e⟩
  ti := k _ _ sa.2.2.2.1.symm Z.ti
  j1 := Z.j1.at fun o e => k _ _ sa.2.1.symm e
  j2 := Z.j2.at fun o e => k _ _ sa.2.2.1.symm e
  la := by
    obtain ⟨o, e, r⟩ := Z.la
    exact ⟨o, k _ _ sa.2.2.2.2.2.1.symm e, r⟩
  lb := by
    obtain ⟨o, e, r⟩ := Z.lb
    exact ⟨o, k _ _ sa.2.2.2.2.2.2.symm e, r⟩
  ps := fun j T hj => by
    obtain ⟨x, y, e1, e2, e3⟩ := Z.ps j T hj
    exact ⟨x, y, e1, e2, k _ _ (Z.ne T (List.mem_of_getElem? hj)).2.2.2 e3⟩
  ne := Z.ne
  nd := Z.nd
  len := Z.len
theorem zip_loop (hh : A.handled = none) (D : ZipApart z TI TO i1 i2 l1 l2) (hx : xs.size = n) (hy : ys.size = n) (hn : n ≤ sizeLine) (res : Value) (sa : S ≠ z ∧ S ≠ i1 ∧ S ≠ i2 ∧ S ≠ TI ∧ S ≠ T0 ∧ S ≠ l1 ∧ S ≠ l2) (ta : T0 ≠ z ∧ T0 ≠ i1 ∧ T0 ≠ i2) :
    ∀ (k i : Nat) (s : Shared) (Ts : List Addr), n - i = k → i ≤ n → ZipL s.heap z TI TO i1 i2 l1 l2 T0 S xs ys i Ts → (∃ c, s.heap.get? S = some { cls := .type "list", dict := none, data := .seq (Ts.map Value.ref).toArray c, slots := #[] }) →
      (∀ (h' : Heap) (Ts' : List Addr) (c' : Nat), (∀ b o, b ≠ z → b ≠ i1 → b ≠ i2 → b ≠ S → s.heap.get? b = some o → h'.get? b = some o) → h'.get? S = some { cls := .type "list", dict := none, data := .seq (Ts'.map Value.ref).toArray c', slots := #[] } → Ts'.length = n → Ts'.Nodup →
        (∀ (j : Nat) (T : Addr), Ts'[j]? = some T → ∃ x y, xs[j]? = some x ∧ ys[j]? = some y ∧ IsPair h' T x y) → (∀ T ∈ Ts', T ≠ S ∧ (T ∈ Ts ∨ s.heap.objs.size ≤ T)) → R (.ok (.ret res)) { s with heap := h' }) →
      codeAny (model prog w) A (.builtin "list.extend.loop" ⟨[.ref S, .ref z, res], []⟩) R s := by
  intro k
  induction k with
  | zero =>
    intro i s Ts hk hi Z ⟨c, hS⟩ hR
    obtain rfl : i = n := by omega
    obtain ⟨b, zk⟩ := Z.zk
    obtain ⟨oT, t0⟩ := Z.t0
    refine codeAny_builtin F.entry_extend_loop ?_
    rw [Around.under_plainId F.plain_extend_loop _]
    show wpAny _ A.in1 (pyNext (.ref z) >>= _) _ _ s
    refine wpAny_bind (next_end hh D zk t0 Z.ti Z.j1 Z.la (by rw [Array.getElem?_eq_none_iff]; omega) fun h' kk => wpAny_pure ?_)
    refine hR h' Ts c (fun b o n1 n2 _ _ e => kk b o n1 n2 e) (kk _ _ sa.1 sa.2.1 hS) Z.len Z.nd (fun j T hj => ?_) fun T hT => ⟨(Z.ne T hT).2.2.2, .inl hT⟩
    obtain ⟨x, y, e1, e2, e3⟩ := Z.ps j T hj
    have q := Z.ne T (List.mem_of_getElem? hj)
    exact ⟨x, y, e1, e2, kk _ _ q.1 q.2.1 e3⟩
  | succ k ih =>
    intro i s Ts hk hi Z ⟨c, hS⟩ hR
    obtain ⟨b, zk⟩ := Z.zk
    obtain ⟨oT, t0⟩ := Z.t0
    have lt1 : i < xs.size := by omega
    have lt2 : i < ys.size := by omega
    refine codeAny_builtin F.entry_extend_loop ?_
    rw [Around.under_plainId F.plain_extend_loop _]
    show wpAny _ A.in1 (pyNext (.ref z) >>= _) _ _ s
    refine wpAny_bind (next_item D zk t0 Z.ti Z.j1 Z.j2 Z.la Z.lb (Array.getElem?_eq_getElem lt1) (Array.getElem?_eq_getElem lt2) fun h' q1 q2 q3 q4 q5 q6 => ?_)
    have hS' := q6 _ _ sa.1 sa.2.1 sa.2.2.1 hS
    have big : ∀ {b : Addr} {o : Obj}, s.heap.get? b = some o → s.heap.objs.size ≠ b := fun e => Nat.ne_of_gt (Heap.lt_size e)
    have oldT : ∀ T ∈ Ts, T < s.heap.objs.size := fun T hT => by
      obtain ⟨j, hj⟩ := List.mem_iff_getElem?.mp hT
      obtain ⟨x, y, _, _, e3⟩ := Z.ps j T hj
      exact Heap.lt_size e3
    have nS : s.heap.objs.size ≠ S := big hS
    have nz : s.heap.objs.size ≠ z := big zk
    have n1 : s.heap.objs.size ≠ i1 := by obtain ⟨_, e, _⟩ := Z.j1; exact big e
    have n2 : s.heap.objs.size ≠ i2 := by obtain ⟨_, e, _⟩ := Z.j2; exact big e
    have Z1 : ZipL h' z TI TO i1 i2 l1 l2 T0 S xs ys (i + 1) (Ts ++ [s.heap.objs.size]) := {
      zk := ⟨true, q1⟩
      t0 := ⟨oT, q6 _ _ ta.1 ta.2.1 ta.2.2 t0⟩
      ti := q6 _ _ D.TIz D.TIi1 D.TIi2 Z.ti
      j1 := q2
      j2 := q3
      la := by
        obtain ⟨o, e, r⟩ := Z.la
        exact ⟨o, q6 _ _ D.l1z D.l1i1 D.l1i2 e, r⟩
      lb := by
        obtain ⟨o, e, r⟩ := Z.lb
        exact ⟨o, q6 _ _ D.l2z D.l2i1 D.l2i2 e, r⟩
      ps := fun j T hj => by
        by_cases hji : j < Ts.length
        · rw [List.getElem?_append_left hji] at hj
          obtain ⟨x, y, e1, e2, e3⟩ := Z.ps j T hj
          have q := Z.ne T (List.mem_of_getElem? hj)
          exact ⟨x, y, e1, e2, q6 _ _ q.1 q.2.1 q.2.2.1 e3⟩
        · have hle : Ts.length ≤ j := by omega
          rw [List.getElem?_append_right hle] at hj
          have hj0 : j - Ts.length = 0 := by
            have := (List.getElem?_eq_some_iff.mp hj).1
            simp only [List.length_singleton] at this
            omega
          rw [hj0] at hj
          cases hj
          have hji : j = i := by have := Z.len; omega
          subst hji
          exact ⟨_, _, Array.getElem?_eq_getElem lt1, Array.getElem?_eq_getElem lt2, q4⟩
      ne := fun T hT => by
        rcases List.mem_append.mp hT with hT | hT
        · exact Z.ne T hT
        · rw [List.mem_singleton.mp hT]
          exact ⟨nz, n1, n2, nS⟩
      nd := by
        rw [List.nodup_append]
        refine ⟨Z.nd, by simp, fun a ha b hb => ?_⟩
        rw [List.mem_singleton.mp hb]
        exact Nat.ne_of_lt (oldT a ha)
      len := by rw [List.length_append, List.length_singleton, Z.len] }
    show wpAny _ A.in1 (updateSeq S (·.push (.ref s.heap.objs.size)) >>= _) _ _ _
    have szT : ((Ts.map Value.ref).toArray).size = i := by rw [List.size_toArray, List.length_map, Z.len]
    refine wpAny_bind (wpAny_updateSeq hS' rfl (wpAny_pure ⟨plainId_quiet F.plain_extend_loop _, ih (i + 1) _ (Ts ++ [s.heap.objs.size]) (by omega) (by omega) (Z1.put (fun c o hc e => (Heap.get?_update_other _ _ (Ne.symm hc)).trans e) sa) ?_ fun h2 Ts' c' k1 k2 k3 k4 k5 k6 => ?_⟩) (by rw [szT]; omega) (by rw [Array.size_push, szT]; omega))
    · obtain ⟨c2, e2⟩ : ∃ c2, (h'.update S (Obj.mapSeq (·.push (.ref s.heap.objs.size)))).get? S = some { cls := .type "list", dict := none, data := .seq ((Ts.map Value.ref).toArray.push (.ref s.heap.objs.size)) c2, slots := #[] } := ⟨_, Heap.get?_update_self _ hS' rfl⟩
      refine ⟨c2, ?_⟩
      rw [List.map_append]
      have e3 : (Ts.map Value.ref ++ [s.heap.objs.size].map Value.ref).toArray = (Ts.map Value.ref).toArray.push (.ref s.heap.objs.size) := by simp
      rw [e3]
      exact e2
    · refine hR h2 Ts' c' (fun b o m1 m2 m3 m4 e => k1 b o m1 m2 m3 m4 ((Heap.get?_update_other _ _ (Ne.symm m4)).trans (q6 b o m1 m2 m3 e))) k2 k3 k4 k5 fun T hT => ?_
      obtain ⟨r1, r2⟩ := k6 T hT
      refine ⟨r1, ?_⟩
      rcases r2 with r2 | r2
      · rcases List.mem_append.mp r2 with r2 | r2
        · exact .inl r2
        · rw [List.mem_singleton.mp r2]
          exact .inr (Nat.le_refl _)
      · have e : (h'.update S (Obj.mapSeq (·.push (.ref s.heap.objs.size)))).objs.size = s.heap.objs.size + 1 := by
          first
            | rw [Heap.size_update, q5]
            | (rw [show (h'.update S (Obj.mapSeq (·.push (.ref s.heap.objs.size)))).objs.size = h'.objs.size from (Heap.SameBut.update ..).1, q5])
        have r3 : (h'.update S (Obj.mapSeq (·.push (.ref s.heap.objs.size)))).objs.size ≤ T := r2
        rw [e] at r3
        exact .inr (by omega)
end
end DL


/-! DX10: list(zip object). -/
namespace DL
open PySem PySem.Calls
theorem zip_no_len : typeLookup (.type "zip") "__len__" = pure none := by rw [typeLookup_type, builtinLookup_eq_fast]; kernel_rfl
theorem zip_no_hint : typeLookup (.type "zip") "__length_hint__" = pure none := by rw [typeLookup_type, builtinLookup_eq_fast]; kernel_rfl
/-- the list that list(zip(l1, l2)) makes -/
abbrev lstZ (Ts : List Addr) (c : Nat) : Obj := { cls := .type "list", dict := none, data := .seq (Ts.map Value.ref).toArray c, slots := #[] }
section
variable {prog : Program} {w : World} {A : Around} {E : Value → Shared → Prop} {R : Result → Shared → Prop} {z TI TO i1 i2 l1 l2 S : Addr} {xs ys : Array Value} {n : Nat}
/-- what comes of it -/
def ZipE (s : Shared) (z TO i1 i2 S : Addr) (xs ys : Array Value) (n : Nat) (K : Heap → List Addr → Prop) : Prop := ∀ (h' : Heap) (Ts : List Addr) (c : Nat), (∀ b o, b ≠ z → b ≠ TO → b ≠ i1 → b ≠ i2 → b ≠ S → s.heap.get? b = some o → h'.get? b = some o) → h'.get? S = some (lstZ Ts c) → Ts.length = n → Ts.Nodup →
  (∀ (j : Nat) (T : Addr), Ts[j]? = some T → ∃ x y, xs[j]? = some x ∧ ys[j]? = some y ∧ IsPair h' T x y) → (∀ T ∈ Ts, T ≠ S ∧ s.heap.objs.size ≤ T) → K h' Ts
theorem first_turn {s : Shared} {a b res : Value} {c : Nat} (hh : A.handled = none) (D : ZipApart z TI TO i1 i2 l1 l2) (hx : xs.size = n + 1) (hy : ys.size = n + 1) (hn : n + 1 ≤ sizeLine)
    (sa : S ≠ z ∧ S ≠ i1 ∧ S ≠ i2 ∧ S ≠ TI ∧ S ≠ TO ∧ S ≠ l1 ∧ S ≠ l2) (hz : IsZip s.heap z TI TO .none) (hTI : IsPair s.heap TI (.ref i1) (.ref i2)) (hTO : IsPair s.heap TO a b)
    (h1 : s.heap.IsListIter i1 l1 0) (h2 : s.heap.IsListIter i2 l2 0) (hl1 : s.heap.IsList l1 xs) (hl2 : s.heap.IsList l2 ys) (hS : s.heap.get? S = some (lstZ [] c))
    (hR : ZipE s z TO i1 i2 S xs ys (n + 1) fun h' _ => R (.ok (.ret res)) { s with heap := h' }) : codeAny (model prog w) A (.builtin "list.extend.loop" ⟨[.ref S, .ref z, res], []⟩) R s := by
  have lt1 : 0 < xs.size := by omega
  have lt2 : 0 < ys.size := by omega
  refine codeAny_builtin F.entry_extend_loop ?_
  rw [Around.under_plainId F.plain_extend_loop _]
  show wpAny _ A.in1 (pyNext (.ref z) >>= _) _ _ s
  refine wpAny_bind (wpAny_pyNext_zip_item D hz hTI hTO h1 h2 hl1 hl2 (Array.getElem?_eq_getElem lt1) (Array.getElem?_eq_getElem lt2) fun h' q1 _ q2 q3 q4 q5 q6 => ?_)
  have big : ∀ {b : Addr} {o : Obj}, s.heap.get? b = some o → s.heap.objs.size ≠ b := fun e => Nat.ne_of_gt (Heap.lt_size e)
  have nS : s.heap.objs.size ≠ S := big hS
  have nz : s.heap.objs.size ≠ z := big hz
  have nTI : s.heap.objs.size ≠ TI := big hTI
  have n1 : s.heap.objs.size ≠ i1 := by obtain ⟨_, e, _⟩ := h1; exact big e
  have n2 : s.heap.objs.size ≠ i2 := by obtain ⟨_, e, _⟩ := h2; exact big e
  have hS' := q6 _ _ sa.1 sa.2.2.2.2.1 sa.2.1 sa.2.2.1 hS
  have sb : S ≠ z ∧ S ≠ i1 ∧ S ≠ i2 ∧ S ≠ TI ∧ S ≠ s.heap.objs.size ∧ S ≠ l1 ∧ S ≠ l2 := ⟨sa.1, sa.2.1, sa.2.2.1, sa.2.2.2.1, nS.symm, sa.2.2.2.2.2.1, sa.2.2.2.2.2.2⟩
  have Z1 : ZipL h' z TI TO i1 i2 l1 l2 s.heap.objs.size S xs ys 1 [s.heap.objs.size] := {
    zk := ⟨false, q1⟩
    t0 := ⟨_, q4⟩
    ti := q6 _ _ D.TIz D.TITO D.TIi1 D.TIi2 hTI
    j1 := q2
    j2 := q3
    la := by
      obtain ⟨o, e, r⟩ := hl1
      exact ⟨o, q6 _ _ D.l1z D.l1TO D.l1i1 D.l1i2 e, r⟩
    lb := by
      obtain ⟨o, e, r⟩ := hl2
      exact ⟨o, q6 _ _ D.l2z D.l2TO D.l2i1 D.l2i2 e, r⟩
    ps := fun j T hj => by
      have hj0 : j = 0 := by
        have := (List.getElem?_eq_some_iff.mp hj).1
        simp only [List.length_singleton] at this
        omega
      subst hj0
      cases hj
      exact ⟨_, _, Array.getElem?_eq_getElem lt1, Array.getElem?_eq_getElem lt2, q4⟩
    ne := fun T hT => by
      rw [List.mem_singleton.mp hT]
      exact ⟨nz, n1, n2, nS⟩
    nd := by simp
    len := rfl }
  show wpAny _ A.in1 (updateSeq S (·.push (.ref s.heap.objs.size)) >>= _) _ _ _
  have s1 : (h'.update S (Obj.mapSeq (·.push (.ref s.heap.objs.size)))).objs.size = s.heap.objs.size + 1 := by
    rw [show (h'.update S (Obj.mapSeq (·.push (.ref s.heap.objs.size)))).objs.size = h'.objs.size from (Heap.SameBut.update ..).1, q5]
  refine wpAny_bind (wpAny_updateSeq hS' rfl (wpAny_pure ⟨plainId_quiet F.plain_extend_loop _, zip_loop hh D hx hy hn res sb ⟨nz, n1, n2⟩ n 1 _ [s.heap.objs.size] (by omega) (by omega) (Z1.put (fun c o hc e => (Heap.get?_update_other _ _ (Ne.symm hc)).trans e) sb) ⟨_, Heap.get?_update_self _ hS' rfl⟩ fun h2 Ts c' k1 k2 k3 k4 k5 k6 => ?_⟩) (show 0 ≤ sizeLine by omega) (show 1 ≤ sizeLine + 1 by omega))
  refine hR h2 Ts c' (fun b o m1 m0 m2 m3 m4 e => k1 b o m1 m2 m3 m4 ((Heap.get?_update_other _ _ (Ne.symm m4)).trans (q6 b o m1 m0 m2 m3 e))) k2 k3 k4 k5 fun T hT => ?_
  obtain ⟨r1, r2⟩ := k6 T hT
  refine ⟨r1, ?_⟩
  rcases r2 with r2 | r2
  · rw [List.mem_singleton.mp r2]
    exact Nat.le_refl _
  · have r3 : (h'.update S (Obj.mapSeq (·.push (.ref s.heap.objs.size)))).objs.size ≤ T := r2
    rw [s1] at r3
    omega
theorem init_zip {s : Shared} {a b : Value} (hh : A.handled = none) (D : ZipApart z TI TO i1 i2 l1 l2) (hx : xs.size = n + 1) (hy : ys.size = n + 1) (hn : n + 1 ≤ sizeLine)
    (sa : S ≠ z ∧ S ≠ i1 ∧ S ≠ i2 ∧ S ≠ TI ∧ S ≠ TO ∧ S ≠ l1 ∧ S ≠ l2) (hz : IsZip s.heap z TI TO .none) (hTI : IsPair s.heap TI (.ref i1) (.ref i2)) (hTO : IsPair s.heap TO a b)
    (h1 : s.heap.IsListIter i1 l1 0) (h2 : s.heap.IsListIter i2 l2 0) (hl1 : s.heap.IsList l1 xs) (hl2 : s.heap.IsList l2 ys) (hS : s.heap.get? S = some { cls := .type "list", data := .seq #[] })
    (hR : ZipE s z TO i1 i2 S xs ys (n + 1) fun h' _ => R (.ok (.ret .none)) { s with heap := h' }) :
    wpAny (model prog w) A.in1 (Builtin.«list.__init__» ⟨[.ref S, .ref z], []⟩) (fun fin s' => match fin with | .done f => R (.ok f) s' | .again c' => c'.quiet = true ∧ codeAny (model prog w) A c' R s') (fun e s' => R (.error e) s') s := by
  show wpAny _ A.in1 (Builtin.List.listItems (.ref S) >>= fun old => Builtin.List.listUpdate (.ref S) (fun _ => #[]) >>= fun _ => letGo old.toList.reverse >>= fun _ => Builtin.List.listExtendWith (.ref S) (.ref z) .none) _ _ s
  unfold Builtin.List.listItems
  refine wpAny_bind (wpAny_bind (wpAny_seqItems hS rfl (wpAny_pure ?_)))
  show wpAny _ A.in1 (updateSeq S (fun _ => #[]) >>= fun _ => letGo (#[] : Array Value).toList.reverse >>= fun _ => _) _ _ s
  have upS : ∀ (f : Array Value → Array Value) {g : Heap} {xs0 : Array Value} {n0 : Nat}, g.get? S = some { cls := .type "list", dict := none, data := .seq xs0 n0, slots := #[] } → ∃ n1, (g.update S (Obj.mapSeq f)).get? S = some { cls := .type "list", dict := none, data := .seq (f xs0) n1, slots := #[] } := fun f g xs0 n0 e => ⟨_, Heap.get?_update_self _ e rfl⟩
  obtain ⟨c1, e1⟩ := upS (fun _ => #[]) hS
  refine wpAny_bind (wpAny_updateSeq hS rfl (wpAny_bind (wpAny_letGo ?_)))
  generalize eg1 : s.heap.update S (Obj.mapSeq fun _ => (#[] : Array Value)) = g1 at e1
  have k1 : ∀ c o, c ≠ S → s.heap.get? c = some o → g1.get? c = some o := fun c o hc e => by rw [← eg1]; exact (Heap.get?_update_other _ _ (Ne.symm hc)).trans e
  have z1 : g1.objs.size = s.heap.objs.size := by rw [← eg1]; exact (Heap.SameBut.update ..).1
  have hz1 : IsZip g1 z TI TO .none := k1 _ _ sa.1.symm hz
  have ty : ({ s with heap := g1 } : Shared).TypeIs (.ref z) "zip" := ⟨_, hz1, rfl⟩
  unfold Builtin.List.listExtendWith
  refine wpAny_bind (wpAny_typeOf ty ?_)
  have b1 : Builtin.List.listSameRef (.ref S) (.ref z) = false := by simp [Builtin.List.listSameRef, sa.1]
  rw [b1, show (false || Value.type "zip" == Value.type "list" || Value.type "zip" == Value.type "tuple") = false by decide, if_neg Bool.false_ne_true]
  refine wpAny_bind (wpAny_pyIter_zip hz1 (wpAny_bind (wpAny_holding ?_)))
  unfold Builtin.List.listLengthHint
  refine wpAny_bind (wpAny_specialOf ty zip_no_len ?_)
  show wpAny _ A.in1 (specialOf (Value.ref z) (Str.ofString "__length_hint__") >>= _) _ _ _
  refine wpAny_bind (wpAny_specialOf ty zip_no_hint (wpAny_pure ?_))
  show wpAny _ A.in1 (rule "list.extend.makes-room" >>= fun _ => (updateSeq S (·.push .none) >>= fun _ => updateSeq S (·.pop)) >>= fun _ => again (.builtin "list.extend.loop" ⟨[.ref S, .ref z, .none], []⟩)) _ _ _
  obtain ⟨c2, e2⟩ := upS (·.push .none) e1
  refine wpAny_bind (wpAny_rule (wpAny_bind (wpAny_bind (wpAny_updateSeq e1 rfl ?_))))
  generalize eg2 : g1.update S (Obj.mapSeq (·.push .none)) = g2 at e2
  have k2 : ∀ c o, c ≠ S → g1.get? c = some o → g2.get? c = some o := fun c o hc e => by rw [← eg2]; exact (Heap.get?_update_other _ _ (Ne.symm hc)).trans e
  have z2 : g2.objs.size = g1.objs.size := by rw [← eg2]; exact (Heap.SameBut.update ..).1
  obtain ⟨c3, e3⟩ := upS (·.pop) e2
  refine wpAny_updateSeq (hz := by show 1 ≤ sizeLine; omega) e2 rfl ?_
  generalize eg3 : g2.update S (Obj.mapSeq (·.pop)) = g3 at e3
  have k3 : ∀ c o, c ≠ S → s.heap.get? c = some o → g3.get? c = some o := fun c o hc e => by rw [← eg3]; exact (Heap.get?_update_other _ _ (Ne.symm hc)).trans (k2 c o hc (k1 c o hc e))
  have z3 : g3.objs.size = s.heap.objs.size := by rw [← eg3, show (g2.update S (Obj.mapSeq (·.pop))).objs.size = g2.objs.size from (Heap.SameBut.update ..).1, z2, z1]
  refine wpAny_pure ⟨plainId_quiet F.plain_extend_loop _, first_turn (s := { s with heap := g3 }) hh D hx hy hn sa (k3 _ _ sa.1.symm hz) (k3 _ _ sa.2.2.2.1.symm hTI) (k3 _ _ sa.2.2.2.2.1.symm hTO) (h1.at fun o e => k3 _ _ sa.2.1.symm e) (h2.at fun o e => k3 _ _ sa.2.2.1.symm e) (by
    obtain ⟨o, e, r⟩ := hl1
    exact ⟨o, k3 _ _ sa.2.2.2.2.2.1.symm e, r⟩) (by
    obtain ⟨o, e, r⟩ := hl2
    exact ⟨o, k3 _ _ sa.2.2.2.2.2.2.symm e, r⟩) (show g3.get? S = some (lstZ [] c3) from e3) fun h' Ts c m1 m2 m3 m4 m5 m6 => ?_⟩
  exact hR h' Ts c (fun b o n1 n2 n3 n4 n5 e => m1 b o n1 n2 n3 n4 n5 (k3 b o n5 e)) m2 m3 m4 m5 fun T hT => ⟨(m6 T hT).1, by have := (m6 T hT).2; rw [show ({ s with heap := g3 } : Shared).heap.objs.size = g3.objs.size from rfl, z3] at this; exact this⟩
theorem call_list_zip {s : Shared} {a b : Value} {Q : Value → Shared → Prop} (hh : A.handled = none) (D : ZipApart z TI TO i1 i2 l1 l2) (hx : xs.size = n + 1) (hy : ys.size = n + 1) (hn : n + 1 ≤ sizeLine)
    (hz : IsZip s.heap z TI TO .none) (hTI : IsPair s.heap TI (.ref i1) (.ref i2)) (hTO : IsPair s.heap TO a b)
    (h1 : s.heap.IsListIter i1 l1 0) (h2 : s.heap.IsListIter i2 l2 0) (hl1 : s.heap.IsList l1 xs) (hl2 : s.heap.IsList l2 ys)
    (hQ : ZipE s z TO i1 i2 s.heap.objs.size xs ys (n + 1) fun h' _ => Q (.ref s.heap.objs.size) { s with heap := h' }) : wpAny (model prog w) A (call (.type "list") [.ref z]) Q E s := by
  have big : ∀ {b : Addr} {o : Obj}, s.heap.get? b = some o → s.heap.objs.size ≠ b := fun e => Nat.ne_of_gt (Heap.lt_size e)
  have up : ∀ c o, s.heap.get? c = some o → (s.heap.push { cls := .type "list", data := .seq #[] }).get? c = some o := fun c o e => Heap.get?_push_of_some _ e
  refine callType_codes (Q₁ := fun obj s₁ => obj = .ref s.heap.objs.size ∧ s₁ = { s with heap := s.heap.push { cls := .type "list", data := .seq #[] } }) F.called_list (F.typeCall_list_1 _) F.entry_list_init (code_list_new _ ⟨rfl, rfl⟩) fun obj s₁ hs => ?_
  obtain ⟨rfl, rfl⟩ := hs
  have hS : (s.heap.push { cls := .type "list", data := .seq #[] }).get? s.heap.objs.size = some { cls := .type "list", data := .seq #[] } := Heap.get?_push_size _ rfl
  refine ⟨⟨_, hS, rfl⟩, F.args_list_init_2 _ _, init_zip (A := A.in1) hh D hx hy hn ⟨big hz, by obtain ⟨_, e, _⟩ := h1; exact big e, by obtain ⟨_, e, _⟩ := h2; exact big e, big hTI, big hTO, by obtain ⟨_, e, _⟩ := hl1; exact big e, by obtain ⟨_, e, _⟩ := hl2; exact big e⟩ (up _ _ hz) (up _ _ hTI) (up _ _ hTO) (h1.at fun o e => up _ _ e) (h2.at fun o e => up _ _ e) (by
    obtain ⟨o, e, r⟩ := hl1
    exact ⟨o, up _ _ e, r⟩) (by
    obtain ⟨o, e, r⟩ := hl2
    exact ⟨o, up _ _ e, r⟩) hS fun h' Ts c m1 m2 m3 m4 m5 m6 => ?_⟩
  exact ⟨rfl, hQ h' Ts c (fun b o n1 n2 n3 n4 n5 e => m1 b o n1 n2 n3 n4 n5 (up b o e)) m2 m3 m4 m5 fun T hT => ⟨(m6 T hT).1, by have := (m6 T hT).2; rw [Heap.size_push] at this; omega⟩⟩
end
end DL


/-! DX11: list(zip(a, b)) as a list of pairs. -/
namespace DL
open PySem PySem.Spec L2
open PyProof.Rows hiding St
section
variable {X : Cx} {pins : List (Addr × Obj)} {σ : L2.St} {H H' : Hp} {s : Shared} {h' : Heap}
/-- new objects laid and tracked, many at once -/
theorem inv_grow {t' : Nat} (I : Inv X pins σ H s) (k : ∀ b u, s.heap.get? b = some u → h'.get? b = some u) (P : ∀ b, b < s.heap.objs.size → H' b = H b) (new : ∀ b u, s.heap.objs.size ≤ b → H' b = some u → ObjOk X.prog X.w H' h' b u) :
    Inv X pins σ H' { s with heap := h', toks := t' } := by
  have low : ∀ {b : Addr} {u : HO}, H b = some u → b < s.heap.objs.size := fun {b u} e => by
    rcases Nat.lt_or_ge b s.heap.objs.size with h | h
    · exact h
    · rw [I.hok.fresh h] at e; cases e
  refine I.un ⟨fun b o q _ _ _ => k b o q, fun b o q _ _ _ => ⟨o.slots, k b o q⟩, fun b o q n _ => (P b (Heap.lt_size q)).trans n, fun b o q _ => ⟨o, k b o q⟩, fun b xs q => (P b (low q)).trans q, fun b o u q => (P b (low q)).trans q, fun b ps q => ⟨#[], by rw [P b (low q), q]; simp⟩⟩ fun b u e => ?_
  rcases Nat.lt_or_ge b s.heap.objs.size with h | h
  · rw [P b h] at e
    exact (I.hok b u e).stay (fun c v _ q => k c v q) (fun c q => (P c (low q)).trans q) fun c xs q => (P c (low q)).trans q
  · exact new b u h e
end
/-- pairs tracked, one by one -/
def trkZ (H : Hp) : List Addr → List Obj → List V → List V → Hp
  | T :: Ts, o :: os, x :: xs, y :: ys => upd (trkZ H Ts os xs ys) T (.frz o (.tup [x, y]))
  | _, _, _, _ => H
theorem trkZ_old {H : Hp} {b : Addr} : ∀ {Ts : List Addr} {os : List Obj} {xs ys : List V}, b ∉ Ts → trkZ H Ts os xs ys b = H b
  | [], _, _, _, _ => by unfold trkZ; rfl
  | _ :: _, [], _, _, _ => by unfold trkZ; rfl
  | _ :: _, _ :: _, [], _, _ => by unfold trkZ; rfl
  | _ :: _, _ :: _, _ :: _, [], _ => by unfold trkZ; rfl
  | T :: Ts, o :: os, x :: xs, y :: ys, h => by
    unfold trkZ
    rw [upd_ne (fun e : b = T => h (by rw [e]; exact List.mem_cons_self))]
    exact trkZ_old fun z => h (List.mem_cons_of_mem _ z)
theorem trkZ_inv {H : Hp} {b : Addr} {u : HO} : ∀ {Ts : List Addr} {os : List Obj} {xs ys : List V}, H b = none → trkZ H Ts os xs ys b = some u → ∃ (j : Nat) (o : Obj) (x y : V), Ts[j]? = some b ∧ os[j]? = some o ∧ xs[j]? = some x ∧ ys[j]? = some y ∧ u = .frz o (.tup [x, y])
  | [], _, _, _, hn, h => by unfold trkZ at h; rw [hn] at h; cases h
  | _ :: _, [], _, _, hn, h => by unfold trkZ at h; rw [hn] at h; cases h
  | _ :: _, _ :: _, [], _, hn, h => by unfold trkZ at h; rw [hn] at h; cases h
  | _ :: _, _ :: _, _ :: _, [], hn, h => by unfold trkZ at h; rw [hn] at h; cases h
  | T :: Ts, o :: os, x :: xs, y :: ys, hn, h => by
    unfold trkZ at h
    by_cases e : b = T
    · subst e
      rw [upd_same] at h
      exact ⟨0, o, x, y, rfl, rfl, rfl, rfl, (Option.some.inj h).symm⟩
    · rw [upd_ne e] at h
      obtain ⟨j, o', x', y', h1, h2, h3, h4, h5⟩ := trkZ_inv hn h
      exact ⟨j + 1, o', x', y', h1, h2, h3, h4, h5⟩
theorem trkZ_at {H : Hp} : ∀ {Ts : List Addr} {os : List Obj} {xs ys : List V} {j : Nat} {t : Addr} {o : Obj} {x y : V}, Ts.Nodup → Ts.length = os.length → Ts.length = xs.length → Ts.length = ys.length → Ts[j]? = some t → os[j]? = some o → xs[j]? = some x → ys[j]? = some y → trkZ H Ts os xs ys t = some (.frz o (.tup [x, y]))
  | [], _, _, _, _, _, _, _, _, _, _, _, _, h, _, _, _ => by simp at h
  | _ :: _, [], _, _, _, _, _, _, _, _, h, _, _, _, _, _, _ => by simp at h
  | _ :: _, _ :: _, [], _, _, _, _, _, _, _, _, h, _, _, _, _, _ => by simp at h
  | _ :: _, _ :: _, _ :: _, [], _, _, _, _, _, _, _, _, h, _, _, _, _ => by simp at h
  | T :: Ts, o :: os, x :: xs, y :: ys, 0, _, _, _, _, _, _, _, _, h1, h2, h3, h4 => by
    cases h1; cases h2; cases h3; cases h4
    unfold trkZ
    exact upd_same
  | T :: Ts, o :: os, x :: xs, y :: ys, j + 1, t, _, _, _, nd, l1, l2, l3, h1, h2, h3, h4 => by
    have nd' := List.nodup_cons.mp nd
    have h1 : Ts[j]? = some t := h1
    unfold trkZ
    rw [upd_ne (fun e : t = T => nd'.1 (e ▸ List.mem_of_getElem? h1))]
    exact trkZ_at nd'.2 (Nat.succ.inj l1) (Nat.succ.inj l2) (Nat.succ.inj l3) h1 h2 h3 h4
/-- the pairs as trees -/
def zipT : List D → List D → List D
  | a :: l, b :: k => .tup [a, b] :: zipT l k
  | _, _ => []
section
variable {T : List (Addr × Str)} {K : PySem.W.Frag} {μ : List Addr} {H : Hp} {m : List C}
theorem trkZ_ext : ∀ {Ts : List Addr} {os : List Obj} {xs ys : List V}, (∀ t ∈ Ts, H t = none) → Ts.Nodup → Sto T K μ H m → Ext μ H μ (trkZ H Ts os xs ys) ∧ Sto T K μ (trkZ H Ts os xs ys) m
  | [], _, _, _, _, _, S => by unfold trkZ; exact ⟨.refl _ _, S⟩
  | _ :: _, [], _, _, _, _, S => by unfold trkZ; exact ⟨.refl _ _, S⟩
  | _ :: _, _ :: _, [], _, _, _, S => by unfold trkZ; exact ⟨.refl _ _, S⟩
  | _ :: _, _ :: _, _ :: _, [], _, _, S => by unfold trkZ; exact ⟨.refl _ _, S⟩
  | t :: Ts, o :: os, x :: xs, y :: ys, hn, nd, S => by
    have nd' := List.nodup_cons.mp nd
    obtain ⟨e, s⟩ := trkZ_ext (os := os) (xs := xs) (ys := ys) (fun z hz => hn z (List.mem_cons_of_mem _ hz)) nd'.2 S
    have h0 : trkZ H Ts os xs ys t = none := (trkZ_old nd'.1).trans (hn t List.mem_cons_self)
    unfold trkZ
    exact ⟨e.trans (.new h0), s.new h0⟩
theorem trkZ_rep {H2 : Hp} : ∀ {Ts : List Addr} {os : List Obj} {xs ys : List V} {l k : List D}, Ts.length = os.length → Ts.length = l.length → Ts.length = k.length → RepL K μ H2 l xs → RepL K μ H2 k ys → (∀ (j : Nat) (t : Addr) (o : Obj) (x y : V), Ts[j]? = some t → os[j]? = some o → xs[j]? = some x → ys[j]? = some y → H2 t = some (.frz o (.tup [x, y])) ∧ o.dict = none) → RepL K μ H2 (zipT l k) (Ts.map V.ref)
  | [], _, _, _, l, k, _, h2, h3, _, _, _ => by
    have e : l = [] := List.eq_nil_of_length_eq_zero h2.symm
    subst e
    unfold zipT
    rfl
  | t :: Ts, [], _, _, _, _, h1, _, _, _, _, _ => by cases h1
  | t :: Ts, o :: os, xs, ys, [], _, _, h2, _, _, _, _ => by cases h2
  | t :: Ts, o :: os, xs, ys, _ :: _, [], _, _, h3, _, _, _ => by cases h3
  | t :: Ts, o :: os, xs, ys, a :: l, b :: k, h1, h2, h3, r1, r2, hh => by
    obtain ⟨x, xs, rfl, ra, r1⟩ := r1
    obtain ⟨y, ys, rfl, rb, r2⟩ := r2
    obtain ⟨e1, e2⟩ := hh 0 t o x y rfl rfl rfl rfl
    unfold zipT
    exact ⟨.ref t, _, rfl, ⟨t, [x, y], rfl, .inl ⟨o, e1, e2⟩, x, [y], rfl, ra, y, [], rfl, rb, rfl⟩, trkZ_rep (Nat.succ.inj h1) (Nat.succ.inj h2) (Nat.succ.inj h3) r1 r2 fun j t o x y q1 q2 q3 q4 => hh (j + 1) t o x y q1 q2 q3 q4⟩
end
section
variable {X : Cx} {T : List (Addr × Str)} {W : WX} {e e2 : Expr} {ta : TA} {p p2 pos pos2 : Pos} {G : LS}
theorem refs_vals : ∀ Ts : List Addr, Vals (Ts.map V.ref) (Ts.map Value.ref)
  | [] => .nil
  | _ :: Ts => .cons rfl (refs_vals Ts)
theorem zw_dict : ∀ {as bs : List Value} {o : Obj}, o ∈ List.zipWith (fun u v : Value => ({ cls := .type "tuple", data := .seq #[u, v] } : Obj)) as bs → o.dict = none
  | [], _, _, h => by simp at h
  | _ :: _, [], _, h => by simp at h
  | a :: as, b :: bs, o, h => by
    rw [List.zipWith_cons_cons] at h
    rcases List.mem_cons.mp h with rfl | h
    · rfl
    · exact zw_dict h
/-- list(zip(a, b)), a and b alike long and not empty -/
def tLz (K : PySem.W.Frag) (ta : TA) : TE := fun σ H Q => ta σ H fun vs H1 => ∃ (l1 l2 : Addr) (xs ys : List V) (n : Nat), vs = [.ref l1, .ref l2] ∧ SqL K H1 l1 xs ∧ SqL K H1 l2 ys ∧ xs.length = n + 1 ∧ ys.length = n + 1 ∧
  ∀ (S : Addr) (oS : Obj) (Ts : List Addr) (os : List Obj), H1 S = none → S ∉ Ts → (∀ t ∈ Ts, H1 t = none) → Ts.Nodup → Ts.length = n + 1 → os.length = n + 1 → (∀ o ∈ os, o.dict = none) → Q (.ref S) (upd (trkZ H1 Ts os xs ys) S (.frz oS (.lst (Ts.map V.ref))))
theorem pe_listZip (hc : X.calm = true) (hgl : Gl X "list") (hml : X.mg "list" = none) (hgz : Gl X "zip") (hmz : X.mg "zip" = none) (ha : PA X [e, e2] ta) (hs : starEach [e, e2] X.env = (false, eval e X.env) :: starEach [e2] X.env := by rfl) (hpl : (backTo pos2 (starEach [e2] X.env)).any (·.1) = false := by rfl)
    (hs2 : starEach [.Call (.Name "zip" p2) [e, e2] [] pos2] X.env = (false, eval (.Call (.Name "zip" p2) [e, e2] [] pos2) X.env) :: starEach [] X.env := by rfl) : PE X (.Call (.Name "list" p) [.Call (.Name "zip" p2) [e, e2] [] pos2] [] pos) (tLz X.K ta) := by
  refine ⟨fun pins s σ H Q I h => Call_ (ld_blt I hgl hml boot_list (PyProof.Rows.callWith_type1 ?_ hs2 rfl))⟩
  rw [hs2]
  refine Calls.spliced_cons (Call_ (ld_blt I hgz hmz PyProof.Rows.boot_zip (PyProof.Rows.callWith_type1 (thn (ha.run pos2 pins s σ H _ I h) fun us s1 ⟨vs, H1, I1, r1, q1⟩ => ?_) hs hpl)))
  obtain ⟨l1, l2, xs, ys, n, rfl, hl1, hl2, hx, hy, q⟩ := q1
  cases r1 with
  | cons ra rr =>
  cases rr with
  | cons rb rr =>
  cases rr
  cases ra
  cases rb
  obtain ⟨its1, rv1, ⟨o1, n1, ho1, hc1, _, hd1⟩, hz1⟩ := I1.list hl1
  obtain ⟨its2, rv2, ⟨o2, n2, ho2, hc2, _, hd2⟩, hz2⟩ := I1.list hl2
  have L1 : s1.heap.IsList l1 its1.toArray := ⟨o1, ho1, hc1, n1, hd1⟩
  have L2' : s1.heap.IsList l2 its2.toArray := ⟨o2, ho2, hc2, n2, hd2⟩
  have sz1 : its1.toArray.size = n + 1 := by rw [List.size_toArray, ← rv1.length, hx]
  have sz2 : its2.toArray.size = n + 1 := by rw [List.size_toArray, ← rv2.length, hy]
  have lt1 : @LT.lt Nat _ l1 s1.heap.objs.size := Heap.lt_size ho1
  have lt2 : @LT.lt Nat _ l2 s1.heap.objs.size := Heap.lt_size ho2
  refine call_zip_2 L1 L2' fun h1 z1 z2 z3 z4 z5 z6 z7 => Calls.spliced_nil ?_
  have la : h1.IsList l1 its1.toArray := ⟨o1, z7 _ _ ho1, hc1, n1, hd1⟩
  have lb : h1.IsList l2 its2.toArray := ⟨o2, z7 _ _ ho2, hc2, n2, hd2⟩
  have ap : ZipApart (s1.heap.objs.size + 4) (s1.heap.objs.size + 2) (s1.heap.objs.size + 3) s1.heap.objs.size (s1.heap.objs.size + 1) l1 l2 := by
    constructor <;> (refine fun z : (_ : Nat) = _ => ?_; omega)
  refine call_list_zip (s := { s1 with heap := h1 }) (I1.ok.hd hc) ap sz1 sz2 (by rw [← hx]; exact hz1) z1 z2 z3 z4 z5 la lb fun h2 Ts c k1 k2 k3 k4 k5 k6 => ?_
  have e6 : ({ s1 with heap := h1 } : Shared).heap.objs.size = s1.heap.objs.size + 5 := z6
  rw [e6] at k1 k2 k6
  rw [e6]
  have keep : ∀ b o, s1.heap.get? b = some o → h2.get? b = some o := fun b o hb => by
    have hlt : @LT.lt Nat _ b s1.heap.objs.size := Heap.lt_size hb
    exact k1 b o (Nat.ne_of_lt (by omega)) (Nat.ne_of_lt (by omega)) (Nat.ne_of_lt (by omega)) (Nat.ne_of_lt (by omega)) (Nat.ne_of_lt (by omega)) (z7 b o hb)
  have nS : s1.heap.objs.size + 5 ∉ Ts := fun hm => (k6 _ hm).1 rfl
  have fresh : ∀ {b : Addr}, s1.heap.objs.size ≤ b → H1 b = none := fun hb => I1.hok.fresh hb
  have ls1 : xs.length = its1.length := rv1.length
  have ls2 : ys.length = its2.length := rv2.length
  generalize eos : List.zipWith (fun u v : Value => ({ cls := .type "tuple", data := .seq #[u, v] } : Obj)) its1 its2 = os
  have lo : os.length = n + 1 := by rw [← eos, List.length_zipWith]; omega
  have J : Inv X pins σ (upd (trkZ H1 Ts os xs ys) (s1.heap.objs.size + 5) (.frz (lstZ Ts c) (.lst (Ts.map V.ref)))) { s1 with heap := h2 } := inv_grow (t' := s1.toks) I1 keep (fun b hb => by
    have hlt : @LT.lt Nat _ b s1.heap.objs.size := hb
    rw [upd_ne (Nat.ne_of_lt (by omega))]
    exact trkZ_old fun hm => by
      have h6 : @LE.le Nat _ (s1.heap.objs.size + 5) b := (k6 _ hm).2
      omega) fun b u hb hu => by
    by_cases eb : b = s1.heap.objs.size + 5
    · subst eb
      rw [upd_same] at hu
      cases hu
      exact ⟨k2, by rw [List.length_map, k3, ← hx]; exact hz1, Ts.map Value.ref, c, refs_vals Ts, k2⟩
    · rw [upd_ne eb] at hu
      obtain ⟨j, o, x, y, q1, q2, q3, q4, rfl⟩ := trkZ_inv (fresh hb) hu
      obtain ⟨u, v, w1, w2, w3⟩ := k5 j b q1
      have w1' : its1[j]? = some u := by simpa using w1
      have w2' : its2[j]? = some v := by simpa using w2
      rw [← eos, List.getElem?_zipWith, w1', w2'] at q2
      cases q2
      obtain ⟨u2, hu2, ru⟩ := rv1.get q3
      obtain ⟨v2, hv2, rv⟩ := rv2.get q4
      rw [w1'] at hu2
      rw [w2'] at hv2
      cases hu2
      cases hv2
      exact ⟨w3, show 2 ≤ sizeLine by decide, [u, v], .cons ru (.cons rv .nil), ⟨_, w3, rfl, _, rfl⟩⟩
  exact ⟨.ref _, _, J, rfl, q _ _ Ts os (fresh (Nat.le_add_right _ 5)) nS (fun t ht => fresh (Nat.le_trans (Nat.le_add_right _ 5) (k6 t ht).2)) k4 k3 lo fun o ho => zw_dict (eos ▸ ho)⟩
/-- list(zip(a, b)) -/
def eLz (G : LS) : ES := fun ρ m => (G ρ m).bind fun l m1 => match l with
  | [a, b] => (match lstOf m1 a, lstOf m1 b with
    | some la, some lb => if la.length = lb.length ∧ la ≠ [] then .ok (.lst (zipT la lb)) m1 else .no
    | _, _ => .no)
  | _ => .no
theorem de_listZip (hml : X.mg "list" = none) (hmz : X.mg "zip" = none) (h : DA X T W [e, e2] G) (hc : X.calm = true := by rfl) (hgl : Gl X "list" := by rfl) (hgz : Gl X "zip" := by rfl) (hs : starEach [e, e2] X.env = (false, eval e X.env) :: starEach [e2] X.env := by rfl) (hpl : (backTo pos2 (starEach [e2] X.env)).any (·.1) = false := by rfl)
    (hs2 : starEach [.Call (.Name "zip" p2) [e, e2] [] pos2] X.env = (false, eval (.Call (.Name "zip" p2) [e, e2] [] pos2) X.env) :: starEach [] X.env := by rfl) : DE X T W (.Call (.Name "list" p) [.Call (.Name "zip" p2) [e, e2] [] pos2] [] pos) (eLz G) :=
  ⟨(pe_listZip hc hgl hml hgz hmz h.run hs hpl hs2).weak fun σ H Q ⟨μ, ρ, m, er, s, q⟩ => tG_mk er s (q.bind fun l m1 μ1 H1 vs x1 s1 r1 q1 => by
    split at q1
    · rename_i a b
      split at q1
      · rename_i la lb ha hb
        split at q1
        · rename_i hl
          obtain ⟨v, w, rfl, ra, rb⟩ := repL2 r1
          obtain ⟨l1, xs, rfl, h1, rl1⟩ := lstOf_rep s1 ra ha
          obtain ⟨l2, ys, rfl, h2, rl2⟩ := lstOf_rep s1 rb hb
          have n0 : la.length ≠ 0 := fun z => hl.2 (List.eq_nil_of_length_eq_zero z)
          have e1 : xs.length = la.length := rl1.length.symm
          have e2 : ys.length = lb.length := rl2.length.symm
          refine ⟨l1, l2, xs, ys, la.length - 1, rfl, h1, h2, by omega, by omega, fun S oS Ts os hS nS hT nd lT lo hd => ?_⟩
          obtain ⟨x2, s2⟩ := trkZ_ext (os := os) (xs := xs) (ys := ys) hT nd s1
          have hS2 : trkZ H1 Ts os xs ys S = none := (trkZ_old nS).trans hS
          have x3 : Ext μ1 H1 μ1 (upd (trkZ H1 Ts os xs ys) S (.frz oS (.lst (Ts.map V.ref)))) := x2.trans (.new hS2)
          refine q1 μ1 _ _ x3 (s2.new hS2) ⟨S, Ts.map V.ref, rfl, ⟨oS, upd_same⟩, trkZ_rep (os := os) (by omega) (by omega) (by omega) (rl1.ext x3) (rl2.ext x3) fun j t o x y g1 g2 g3 g4 => ⟨?_, hd o (List.mem_of_getElem? g2)⟩⟩
          have tS : t ≠ S := fun z => nS (z ▸ List.mem_of_getElem? g1)
          rw [upd_ne tS]
          exact trkZ_at nd (by omega) (by omega) (by omega) g1 g2 g3 g4
        · exact q1.elim
      · exact q1.elim
    · exact q1.elim)⟩
end
end DL


namespace K00
open PySem PySem.Spec L2 DL
open PyProof.Rows hiding St pairD intD cutD
noncomputable section
def topS (i : Nat) : Stmt := PySem.Challenge.pw_shownviews_k00_errors_and_their_fields.main.body.getD i (.Pass ⟨0, 0, 0, 0⟩)
abbrev st_l_hand : Stmt := topS 46
theorem sc_l_hand : FnScope ["script", "cells", "cell"] ["script"] (defScope st_l_hand) := ⟨rfl, rfl, rfl, by decide +kernel, rfl, by decide +kernel, by decide +kernel⟩
abbrev st_l_draw : Stmt := topS 47
theorem sc_l_draw : FnScope ["hand", "many", "cell", "digit", "number"] ["hand", "many"] (defScope st_l_draw) := ⟨rfl, rfl, rfl, by decide +kernel, rfl, by decide +kernel, by decide +kernel⟩
abbrev st_l_some : Stmt := topS 48
theorem sc_l_some : FnScope ["hand", "things"] ["hand", "things"] (defScope st_l_some) := ⟨rfl, rfl, rfl, by decide +kernel, rfl, by decide +kernel, by decide +kernel⟩
abbrev st_l_kinds : Stmt := topS 49
theorem sc_l_kinds : FnScope ["one", "found"] ["one"] (defScope st_l_kinds) := ⟨rfl, rfl, rfl, by decide +kernel, rfl, by decide +kernel, by decide +kernel⟩
abbrev st_l_plain : Stmt := topS 50
theorem sc_l_plain : FnScope ["hand", "made"] ["hand"] (defScope st_l_plain) := ⟨rfl, rfl, rfl, by decide +kernel, rfl, by decide +kernel, by decide +kernel⟩
abbrev st_l_filled : Stmt := topS 51
theorem sc_l_filled : FnScope ["thing", "found", "kept", "many"] ["thing"] (defScope st_l_filled) := ⟨rfl, rfl, rfl, by decide +kernel, rfl, by decide +kernel, by decide +kernel⟩
abbrev st_l_thing : Stmt := topS 52
theorem sc_l_thing : FnScope ["hand", "some"] ["hand"] (defScope st_l_thing) := ⟨rfl, rfl, rfl, by decide +kernel, rfl, by decide +kernel, by decide +kernel⟩
abbrev st_law : Stmt := topS 53
theorem sc_law : FnScope ["script", "hand", "plain", "thing", "filled", "error", "kinds", "kept"] ["script"] (defScope st_law) := ⟨rfl, rfl, rfl, by decide +kernel, rfl, by decide +kernel, by decide +kernel⟩
abbrev st_init_BadDisk : Stmt := inClass (topS 41) 0
theorem tx_init_BadDisk : InitTx "self" "part" (defArgs st_init_BadDisk) (defScope st_init_BadDisk) ⟨97, 8, 97, 13⟩ ⟨97, 8, 97, 15⟩ ⟨97, 8, 97, 24⟩ ⟨97, 25, 97, 29⟩ ⟨97, 8, 97, 30⟩ ⟨97, 8, 97, 30⟩ ⟨98, 8, 98, 12⟩ ⟨98, 8, 98, 17⟩ ⟨98, 20, 98, 24⟩ ⟨98, 8, 98, 24⟩ "part" "BadDisk.__init__" := ⟨rfl, rfl, rfl, by decide +kernel, by decide +kernel, rfl, rfl, rfl, rfl, ⟨_, rfl, rfl⟩, by decide +kernel, by decide +kernel, by decide +kernel, by decide +kernel, by decide +kernel, ⟨_, fun _ _ _ _ => rfl⟩, fun _ _ _ _ => rfl, fun _ _ _ _ => rfl, fun _ _ _ _ => rfl⟩
def mk_init_BadDisk {P : Program} {K : PySem.W.Frag} {mg : Str → Option Value} {c fI cda cc : Addr} {kV doc pm ct oc : Value} {an od : Option Addr} {osl : Array (Option Value)} (lk : K.lookup fI = some ⟨oc, od, .func (PySem.W.ksFn "__init__" "BadDisk.__init__" (defArgs st_init_BadDisk) (defBody st_init_BadDisk) (defScope st_init_BadDisk) .none kV doc pm an (.ref cda) ct cc), osl⟩) (l : InitLf P K mg "BadDisk" c fI cda cc "part" "BadDisk.__init__") : InitAt P K mg "BadDisk" c "part" :=
  initAt_mk (x := "BadDisk") lk tx_init_BadDisk l fun us hl => match us, hl with | [_, _], _ => rfl
abbrev st_init_BadKept : Stmt := inClass (topS 43) 0
theorem tx_init_BadKept : InitTx "self" "area" (defArgs st_init_BadKept) (defScope st_init_BadKept) ⟨107, 8, 107, 13⟩ ⟨107, 8, 107, 15⟩ ⟨107, 8, 107, 24⟩ ⟨107, 25, 107, 29⟩ ⟨107, 8, 107, 30⟩ ⟨107, 8, 107, 30⟩ ⟨108, 8, 108, 12⟩ ⟨108, 8, 108, 17⟩ ⟨108, 20, 108, 24⟩ ⟨108, 8, 108, 24⟩ "area" "BadKept.__init__" := ⟨rfl, rfl, rfl, by decide +kernel, by decide +kernel, rfl, rfl, rfl, rfl, ⟨_, rfl, rfl⟩, by decide +kernel, by decide +kernel, by decide +kernel, by decide +kernel, by decide +kernel, ⟨_, fun _ _ _ _ => rfl⟩, fun _ _ _ _ => rfl, fun _ _ _ _ => rfl, fun _ _ _ _ => rfl⟩
def mk_init_BadKept {P : Program} {K : PySem.W.Frag} {mg : Str → Option Value} {c fI cda cc : Addr} {kV doc pm ct oc : Value} {an od : Option Addr} {osl : Array (Option Value)} (lk : K.lookup fI = some ⟨oc, od, .func (PySem.W.ksFn "__init__" "BadKept.__init__" (defArgs st_init_BadKept) (defBody st_init_BadKept) (defScope st_init_BadKept) .none kV doc pm an (.ref cda) ct cc), osl⟩) (l : InitLf P K mg "BadKept" c fI cda cc "area" "BadKept.__init__") : InitAt P K mg "BadKept" c "area" :=
  initAt_mk (x := "BadKept") lk tx_init_BadKept l fun us hl => match us, hl with | [_, _], _ => rfl
abbrev st_init_BadStore : Stmt := inClass (topS 44) 0
theorem tx_init_BadStore : InitTx "self" "index" (defArgs st_init_BadStore) (defScope st_init_BadStore) ⟨112, 8, 112, 13⟩ ⟨112, 8, 112, 15⟩ ⟨112, 8, 112, 24⟩ ⟨112, 25, 112, 30⟩ ⟨112, 8, 112, 31⟩ ⟨112, 8, 112, 31⟩ ⟨113, 8, 113, 12⟩ ⟨113, 8, 113, 18⟩ ⟨113, 21, 113, 26⟩ ⟨113, 8, 113, 26⟩ "index" "BadStore.__init__" := ⟨rfl, rfl, rfl, by decide +kernel, by decide +kernel, rfl, rfl, rfl, rfl, ⟨_, rfl, rfl⟩, by decide +kernel, by decide +kernel, by decide +kernel, by decide +kernel, by decide +kernel, ⟨_, fun _ _ _ _ => rfl⟩, fun _ _ _ _ => rfl, fun _ _ _ _ => rfl, fun _ _ _ _ => rfl⟩
def mk_init_BadStore {P : Program} {K : PySem.W.Frag} {mg : Str → Option Value} {c fI cda cc : Addr} {kV doc pm ct oc : Value} {an od : Option Addr} {osl : Array (Option Value)} (lk : K.lookup fI = some ⟨oc, od, .func (PySem.W.ksFn "__init__" "BadStore.__init__" (defArgs st_init_BadStore) (defBody st_init_BadStore) (defScope st_init_BadStore) .none kV doc pm an (.ref cda) ct cc), osl⟩) (l : InitLf P K mg "BadStore" c fI cda cc "index" "BadStore.__init__") : InitAt P K mg "BadStore" c "index" :=
  initAt_mk (x := "BadStore") lk tx_init_BadStore l fun us hl => match us, hl with | [_, _], _ => rfl
abbrev st_init_BadText : Stmt := inClass (topS 39) 0
theorem tx_init_BadText : InitTx "self" "place" (defArgs st_init_BadText) (defScope st_init_BadText) ⟨87, 8, 87, 13⟩ ⟨87, 8, 87, 15⟩ ⟨87, 8, 87, 24⟩ ⟨87, 25, 87, 30⟩ ⟨87, 8, 87, 31⟩ ⟨87, 8, 87, 31⟩ ⟨88, 8, 88, 12⟩ ⟨88, 8, 88, 18⟩ ⟨88, 21, 88, 26⟩ ⟨88, 8, 88, 26⟩ "place" "BadText.__init__" := ⟨rfl, rfl, rfl, by decide +kernel, by decide +kernel, rfl, rfl, rfl, rfl, ⟨_, rfl, rfl⟩, by decide +kernel, by decide +kernel, by decide +kernel, by decide +kernel, by decide +kernel, ⟨_, fun _ _ _ _ => rfl⟩, fun _ _ _ _ => rfl, fun _ _ _ _ => rfl, fun _ _ _ _ => rfl⟩
def mk_init_BadText {P : Program} {K : PySem.W.Frag} {mg : Str → Option Value} {c fI cda cc : Addr} {kV doc pm ct oc : Value} {an od : Option Addr} {osl : Array (Option Value)} (lk : K.lookup fI = some ⟨oc, od, .func (PySem.W.ksFn "__init__" "BadText.__init__" (defArgs st_init_BadText) (defBody st_init_BadText) (defScope st_init_BadText) .none kV doc pm an (.ref cda) ct cc), osl⟩) (l : InitLf P K mg "BadText" c fI cda cc "place" "BadText.__init__") : InitAt P K mg "BadText" c "place" :=
  initAt_mk (x := "BadText") lk tx_init_BadText l fun us hl => match us, hl with | [_, _], _ => rfl
abbrev st_init_Barred : Stmt := inClass (topS 38) 0
theorem tx_init_Barred : InitTx "self" "bar" (defArgs st_init_Barred) (defScope st_init_Barred) ⟨82, 8, 82, 13⟩ ⟨82, 8, 82, 15⟩ ⟨82, 8, 82, 24⟩ ⟨82, 25, 82, 28⟩ ⟨82, 8, 82, 29⟩ ⟨82, 8, 82, 29⟩ ⟨83, 8, 83, 12⟩ ⟨83, 8, 83, 16⟩ ⟨83, 19, 83, 22⟩ ⟨83, 8, 83, 22⟩ "bar" "Barred.__init__" := ⟨rfl, rfl, rfl, by decide +kernel, by decide +kernel, rfl, rfl, rfl, rfl, ⟨_, rfl, rfl⟩, by decide +kernel, by decide +kernel, by decide +kernel, by decide +kernel, by decide +kernel, ⟨_, fun _ _ _ _ => rfl⟩, fun _ _ _ _ => rfl, fun _ _ _ _ => rfl, fun _ _ _ _ => rfl⟩
def mk_init_Barred {P : Program} {K : PySem.W.Frag} {mg : Str → Option Value} {c fI cda cc : Addr} {kV doc pm ct oc : Value} {an od : Option Addr} {osl : Array (Option Value)} (lk : K.lookup fI = some ⟨oc, od, .func (PySem.W.ksFn "__init__" "Barred.__init__" (defArgs st_init_Barred) (defBody st_init_Barred) (defScope st_init_Barred) .none kV doc pm an (.ref cda) ct cc), osl⟩) (l : InitLf P K mg "Barred" c fI cda cc "bar" "Barred.__init__") : InitAt P K mg "Barred" c "bar" :=
  initAt_mk (x := "Barred") lk tx_init_Barred l fun us hl => match us, hl with | [_, _], _ => rfl
abbrev st_init_Full : Stmt := inClass (topS 42) 0
theorem tx_init_Full : InitTx "self" "area" (defArgs st_init_Full) (defScope st_init_Full) ⟨102, 8, 102, 13⟩ ⟨102, 8, 102, 15⟩ ⟨102, 8, 102, 24⟩ ⟨102, 25, 102, 29⟩ ⟨102, 8, 102, 30⟩ ⟨102, 8, 102, 30⟩ ⟨103, 8, 103, 12⟩ ⟨103, 8, 103, 17⟩ ⟨103, 20, 103, 24⟩ ⟨103, 8, 103, 24⟩ "area" "Full.__init__" := ⟨rfl, rfl, rfl, by decide +kernel, by decide +kernel, rfl, rfl, rfl, rfl, ⟨_, rfl, rfl⟩, by decide +kernel, by decide +kernel, by decide +kernel, by decide +kernel, by decide +kernel, ⟨_, fun _ _ _ _ => rfl⟩, fun _ _ _ _ => rfl, fun _ _ _ _ => rfl, fun _ _ _ _ => rfl⟩
def mk_init_Full {P : Program} {K : PySem.W.Frag} {mg : Str → Option Value} {c fI cda cc : Addr} {kV doc pm ct oc : Value} {an od : Option Addr} {osl : Array (Option Value)} (lk : K.lookup fI = some ⟨oc, od, .func (PySem.W.ksFn "__init__" "Full.__init__" (defArgs st_init_Full) (defBody st_init_Full) (defScope st_init_Full) .none kV doc pm an (.ref cda) ct cc), osl⟩) (l : InitLf P K mg "Full" c fI cda cc "area" "Full.__init__") : InitAt P K mg "Full" c "area" :=
  initAt_mk (x := "Full") lk tx_init_Full l fun us hl => match us, hl with | [_, _], _ => rfl
abbrev st_init_NotYet : Stmt := inClass (topS 37) 0
theorem tx_init_NotYet : InitTx "self" "lacking" (defArgs st_init_NotYet) (defScope st_init_NotYet) ⟨77, 8, 77, 13⟩ ⟨77, 8, 77, 15⟩ ⟨77, 8, 77, 24⟩ ⟨77, 25, 77, 32⟩ ⟨77, 8, 77, 33⟩ ⟨77, 8, 77, 33⟩ ⟨78, 8, 78, 12⟩ ⟨78, 8, 78, 20⟩ ⟨78, 23, 78, 30⟩ ⟨78, 8, 78, 30⟩ "lacking" "NotYet.__init__" := ⟨rfl, rfl, rfl, by decide +kernel, by decide +kernel, rfl, rfl, rfl, rfl, ⟨_, rfl, rfl⟩, by decide +kernel, by decide +kernel, by decide +kernel, by decide +kernel, by decide +kernel, ⟨_, fun _ _ _ _ => rfl⟩, fun _ _ _ _ => rfl, fun _ _ _ _ => rfl, fun _ _ _ _ => rfl⟩
def mk_init_NotYet {P : Program} {K : PySem.W.Frag} {mg : Str → Option Value} {c fI cda cc : Addr} {kV doc pm ct oc : Value} {an od : Option Addr} {osl : Array (Option Value)} (lk : K.lookup fI = some ⟨oc, od, .func (PySem.W.ksFn "__init__" "NotYet.__init__" (defArgs st_init_NotYet) (defBody st_init_NotYet) (defScope st_init_NotYet) .none kV doc pm an (.ref cda) ct cc), osl⟩) (l : InitLf P K mg "NotYet" c fI cda cc "lacking" "NotYet.__init__") : InitAt P K mg "NotYet" c "lacking" :=
  initAt_mk (x := "NotYet") lk tx_init_NotYet l fun us hl => match us, hl with | [_, _], _ => rfl
abbrev st_init_TooMany : Stmt := inClass (topS 40) 0
theorem tx_init_TooMany : InitTx "self" "most" (defArgs st_init_TooMany) (defScope st_init_TooMany) ⟨92, 8, 92, 13⟩ ⟨92, 8, 92, 15⟩ ⟨92, 8, 92, 24⟩ ⟨92, 25, 92, 29⟩ ⟨92, 8, 92, 30⟩ ⟨92, 8, 92, 30⟩ ⟨93, 8, 93, 12⟩ ⟨93, 8, 93, 17⟩ ⟨93, 20, 93, 24⟩ ⟨93, 8, 93, 24⟩ "most" "TooMany.__init__" := ⟨rfl, rfl, rfl, by decide +kernel, by decide +kernel, rfl, rfl, rfl, rfl, ⟨_, rfl, rfl⟩, by decide +kernel, by decide +kernel, by decide +kernel, by decide +kernel, by decide +kernel, ⟨_, fun _ _ _ _ => rfl⟩, fun _ _ _ _ => rfl, fun _ _ _ _ => rfl, fun _ _ _ _ => rfl⟩
def mk_init_TooMany {P : Program} {K : PySem.W.Frag} {mg : Str → Option Value} {c fI cda cc : Addr} {kV doc pm ct oc : Value} {an od : Option Addr} {osl : Array (Option Value)} (lk : K.lookup fI = some ⟨oc, od, .func (PySem.W.ksFn "__init__" "TooMany.__init__" (defArgs st_init_TooMany) (defBody st_init_TooMany) (defScope st_init_TooMany) .none kV doc pm an (.ref cda) ct cc), osl⟩) (l : InitLf P K mg "TooMany" c fI cda cc "most" "TooMany.__init__") : InitAt P K mg "TooMany" c "most" :=
  initAt_mk (x := "TooMany") lk tx_init_TooMany l fun us hl => match us, hl with | [_, _], _ => rfl
/-- what the top has left -/
structure Txt (P : Program) (K : PySem.W.Frag) (mg : Str → Option Value) (cl : Str → Addr) (cd : Nat → Addr) (base : Heap) where
  l_hand : DefAt K mg "_law_hand" st_l_hand ["script"]
  l_draw : DefAt K mg "_law_draw" st_l_draw ["hand", "many"]
  l_some : DefAt K mg "_law_some" st_l_some ["hand", "things"]
  l_kinds : DefAt K mg "_law_kinds" st_l_kinds ["one"]
  l_plain : DefAt K mg "_law_plain" st_l_plain ["hand"]
  l_filled : DefAt K mg "_law_filled" st_l_filled ["thing"]
  l_thing : DefAt K mg "_law_thing" st_l_thing ["hand"]
  law : DefAt K mg "law" st_law ["script"]
  sysm : SysIn base
  k_BadDeed : ClsAt mg "BadDeed" (cl "BadDeed")
  k_BadDisk : ClsAt mg "BadDisk" (cl "BadDisk")
  k_BadKept : ClsAt mg "BadKept" (cl "BadKept")
  k_BadStore : ClsAt mg "BadStore" (cl "BadStore")
  k_BadText : ClsAt mg "BadText" (cl "BadText")
  k_Barred : ClsAt mg "Barred" (cl "Barred")
  k_Down : ClsAt mg "Down" (cl "Down")
  k_Full : ClsAt mg "Full" (cl "Full")
  k_Here : ClsAt mg "Here" (cl "Here")
  k_NoArea : ClsAt mg "NoArea" (cl "NoArea")
  k_NoBook : ClsAt mg "NoBook" (cl "NoBook")
  k_NoClosed : ClsAt mg "NoClosed" (cl "NoClosed")
  k_NoDeed : ClsAt mg "NoDeed" (cl "NoDeed")
  k_NoEdit : ClsAt mg "NoEdit" (cl "NoEdit")
  k_NoFact : ClsAt mg "NoFact" (cl "NoFact")
  k_NoFacts : ClsAt mg "NoFacts" (cl "NoFacts")
  k_NoLetter : ClsAt mg "NoLetter" (cl "NoLetter")
  k_NoLife : ClsAt mg "NoLife" (cl "NoLife")
  k_NoLot : ClsAt mg "NoLot" (cl "NoLot")
  k_NoMark : ClsAt mg "NoMark" (cl "NoMark")
  k_NoName : ClsAt mg "NoName" (cl "NoName")
  k_NoNumber : ClsAt mg "NoNumber" (cl "NoNumber")
  k_NoPattern : ClsAt mg "NoPattern" (cl "NoPattern")
  k_NoPlan : ClsAt mg "NoPlan" (cl "NoPlan")
  k_NoPrime : ClsAt mg "NoPrime" (cl "NoPrime")
  k_NoRoot : ClsAt mg "NoRoot" (cl "NoRoot")
  k_NoRow : ClsAt mg "NoRow" (cl "NoRow")
  k_NoRows : ClsAt mg "NoRows" (cl "NoRows")
  k_NoRule : ClsAt mg "NoRule" (cl "NoRule")
  k_NoSchema : ClsAt mg "NoSchema" (cl "NoSchema")
  k_NoShowing : ClsAt mg "NoShowing" (cl "NoShowing")
  k_NoStore : ClsAt mg "NoStore" (cl "NoStore")
  k_NoStretch : ClsAt mg "NoStretch" (cl "NoStretch")
  k_NoTables : ClsAt mg "NoTables" (cl "NoTables")
  k_NoText : ClsAt mg "NoText" (cl "NoText")
  k_NoView : ClsAt mg "NoView" (cl "NoView")
  k_NotHere : ClsAt mg "NotHere" (cl "NotHere")
  k_NotYet : ClsAt mg "NotYet" (cl "NotYet")
  k_OtherPrime : ClsAt mg "OtherPrime" (cl "OtherPrime")
  k_OtherSchema : ClsAt mg "OtherSchema" (cl "OtherSchema")
  k_TooMany : ClsAt mg "TooMany" (cl "TooMany")
  k_TooSmall : ClsAt mg "TooSmall" (cl "TooSmall")
  k_Unsafe : ClsAt mg "Unsafe" (cl "Unsafe")
  k_ViewError : ClsAt mg "ViewError" (cl "ViewError")
  i_BadDisk : InitAt P K mg "BadDisk" (cl "BadDisk") "part"
  i_BadKept : InitAt P K mg "BadKept" (cl "BadKept") "area"
  i_BadStore : InitAt P K mg "BadStore" (cl "BadStore") "index"
  i_BadText : InitAt P K mg "BadText" (cl "BadText") "place"
  i_Barred : InitAt P K mg "Barred" (cl "Barred") "bar"
  i_Full : InitAt P K mg "Full" (cl "Full") "area"
  i_NotYet : InitAt P K mg "NotYet" (cl "NotYet") "lacking"
  i_TooMany : InitAt P K mg "TooMany" (cl "TooMany") "most"
  r_BadDeed : ErrAt K mg "BadDeed" (cl "BadDeed")
  r_Down : ErrAt K mg "Down" (cl "Down")
  r_Here : ErrAt K mg "Here" (cl "Here")
  r_NoArea : ErrAt K mg "NoArea" (cl "NoArea")
  r_NoBook : ErrAt K mg "NoBook" (cl "NoBook")
  r_NoClosed : ErrAt K mg "NoClosed" (cl "NoClosed")
  r_NoDeed : ErrAt K mg "NoDeed" (cl "NoDeed")
  r_NoEdit : ErrAt K mg "NoEdit" (cl "NoEdit")
  r_NoFact : ErrAt K mg "NoFact" (cl "NoFact")
  r_NoFacts : ErrAt K mg "NoFacts" (cl "NoFacts")
  r_NoLetter : ErrAt K mg "NoLetter" (cl "NoLetter")
  r_NoLife : ErrAt K mg "NoLife" (cl "NoLife")
  r_NoLot : ErrAt K mg "NoLot" (cl "NoLot")
  r_NoMark : ErrAt K mg "NoMark" (cl "NoMark")
  r_NoName : ErrAt K mg "NoName" (cl "NoName")
  r_NoNumber : ErrAt K mg "NoNumber" (cl "NoNumber")
  r_NoPattern : ErrAt K mg "NoPattern" (cl "NoPattern")
  r_NoPlan : ErrAt K mg "NoPlan" (cl "NoPlan")
  r_NoPrime : ErrAt K mg "NoPrime" (cl "NoPrime")
  r_NoRoot : ErrAt K mg "NoRoot" (cl "NoRoot")
  r_NoRow : ErrAt K mg "NoRow" (cl "NoRow")
  r_NoRows : ErrAt K mg "NoRows" (cl "NoRows")
  r_NoRule : ErrAt K mg "NoRule" (cl "NoRule")
  r_NoSchema : ErrAt K mg "NoSchema" (cl "NoSchema")
  r_NoShowing : ErrAt K mg "NoShowing" (cl "NoShowing")
  r_NoStore : ErrAt K mg "NoStore" (cl "NoStore")
  r_NoStretch : ErrAt K mg "NoStretch" (cl "NoStretch")
  r_NoTables : ErrAt K mg "NoTables" (cl "NoTables")
  r_NoText : ErrAt K mg "NoText" (cl "NoText")
  r_NoView : ErrAt K mg "NoView" (cl "NoView")
  r_NotHere : ErrAt K mg "NotHere" (cl "NotHere")
  r_OtherPrime : ErrAt K mg "OtherPrime" (cl "OtherPrime")
  r_OtherSchema : ErrAt K mg "OtherSchema" (cl "OtherSchema")
  r_TooSmall : ErrAt K mg "TooSmall" (cl "TooSmall")
  r_Unsafe : ErrAt K mg "Unsafe" (cl "Unsafe")
  z_ValueError : mg "ValueError" = none
  z_abs : mg "abs" = none
  z_all : mg "all" = none
  z_any : mg "any" = none
  z_int : mg "int" = none
  z_isinstance : mg "isinstance" = none
  z_len : mg "len" = none
  z_list : mg "list" = none
  z_repr : mg "repr" = none
  z_zip : mg "zip" = none
section
variable {P : Program} {w : World} {K : PySem.W.Frag} {mg : Str → Option Value} {cl : Str → Addr} {cd : Nat → Addr} {base : Heap} {T : List (Addr × Str)}
def B_l_hand  : SS :=
    (sSeq (sSet 1 (eLc (iSeq (eSl (eVar 0) pNone (pSome (eC (.int 63))))) (gN 2) [2] bYes (eAr absD (aCons (eAr intD (aCons (eVar 2) aNil)) aNil))))
    (sRet (eLstC (aCons (eVar 1) (aCons (eC (.int 0)) (aCons (eC (.int 0)) (aCons (eBin addD (eC (.int 211)) (eBin mulD (eC (.int 7)) (eAr lenD (aCons (eVar 1) aNil)))) (aCons (eC (.int 0)) aNil))))))))
theorem body_l_hand (t : Txt P K mg cl cd base) : FnG P w K mg base (L2.CX P w) (0 + 1) t.l_hand.f t.l_hand.fd ["script"] (spD K T 1 (fnD 3 (B_l_hand))) :=
  fn_D t.l_hand.F sc_l_hand fun cdv A outer s H E hr tk =>
    (dss_cons (ds_setLc (i := 1) (own := [("cell", 2)]) rfl sc_l_hand.nd rfl rfl (sw_true rfl rfl rfl (by decide +kernel)) (di_seq (de_slice (de_var (pv 0)) dp_none (dp_some de_int))) (blkOk_by (by kernel_rfl)) (fun _ _ _ _ _ => (dg_name (i := 2) sc_l_hand.nd rfl (by first | exact Or.inl rfl | exact Or.inr rfl))) (fun _ _ _ _ _ => dts_nil) (fun _ _ _ _ _ => (de_callB call_abs absD_ok (da_cons (de_callTy call_int1 intD_ok (da_cons (de_var (pv 2)) da_nil) t.z_int) da_nil) t.z_abs)))
    (dss_one (ds_ret (de_lstC (da_cons (de_var (pv 1)) (da_cons de_int (da_cons de_int (da_cons (de_bin op_addA addD_ok de_int (de_bin op_mulW mulD_ok de_int (de_callB call_lenA lenD_ok (da_cons (de_var (pv 1)) da_nil) t.z_len))) (da_cons de_int da_nil)))))))))
def B_l_draw  : SS :=
    (sSeq (sIf (bAnd (bTest (eBin eqD (eBin ixD (eVar 0) (eC (.int 2))) (eC (.int 0)))) (bTest (eBin (cmpD fun i j => decide (i < j)) (eBin ixD (eVar 0) (eC (.int 1))) (eAr lenD (aCons (eBin ixD (eVar 0) (eC (.int 0))) aNil))))) (sSeq (sSet 2 (eBin ixD (eBin ixD (eVar 0) (eC (.int 0))) (eBin ixD (eVar 0) (eC (.int 1)))))
    (sSeq (sSub (eVar 0) (eC (.int 1)) (eBin addD (eBin ixD (eVar 0) (eC (.int 1))) (eC (.int 1))))
    (sSeq (sSub (eVar 0) (eC (.int 3)) (eBin modD (eAr intD (aCons (eBin addD (eBin addD (eBin mulD (eBin ixD (eVar 0) (eC (.int 3))) (eC (.int 69621))) (eVar 2)) (eC (.int 83))) aNil)) (eC (.int 2147483629))))
    (sIf (bTest (eBin (cmpD fun i j => decide (j ≤ i)) (eVar 2) (eBin powD (eC (.int 10)) (eC (.int 18))))) (sSub (eVar 0) (eC (.int 2)) (eVar 2)) sSkip)))) sSkip)
    (sSeq (sIf (bTest (eBin (cmpD fun i j => decide (j < i)) (eBin ixD (eVar 0) (eC (.int 2))) (eC (.int 0)))) (sSeq (sSet 3 (eBin modD (eAr intD (aCons (eBin ixD (eVar 0) (eC (.int 2))) aNil)) (eVar 1)))
    (sSeq (sSub (eVar 0) (eC (.int 2)) (eBin fdivD (eBin ixD (eVar 0) (eC (.int 2))) (eVar 1)))
    (sRet (eVar 3)))) sSkip)
    (sSeq (sSub (eVar 0) (eC (.int 4)) (eBin addD (eBin ixD (eVar 0) (eC (.int 4))) (eC (.int 1))))
    (sSeq (sSet 4 (eBin modD (eAr intD (aCons (eBin mulD (eAr intD (aCons (eBin addD (eBin ixD (eVar 0) (eC (.int 3))) (eBin mulD (eC (.int 7919)) (eBin ixD (eVar 0) (eC (.int 4))))) aNil)) (eC (.int 48271))) aNil)) (eC (.int 2147483647))))
    (sSeq (sSet 4 (eBin modD (eAr intD (aCons (eBin mulD (eVar 4) (eBin addD (eBin fdivD (eVar 4) (eC (.int 1009))) (eC (.int 69621)))) aNil)) (eC (.int 2147483647))))
    (sSeq (sSet 4 (eBin modD (eAr intD (aCons (eBin mulD (eVar 4) (eBin addD (eBin fdivD (eVar 4) (eC (.int 2003))) (eC (.int 40692)))) aNil)) (eC (.int 2147483399))))
    (sRet (eBin modD (eAr intD (aCons (eBin fdivD (eVar 4) (eC (.int 16))) aNil)) (eVar 1)))))))))
theorem body_l_draw (t : Txt P K mg cl cd base) : FnG P w K mg base (L2.CX P w) (0 + 1) t.l_draw.f t.l_draw.fd ["hand", "many"] (spD K T 2 (fnD 5 (B_l_draw))) :=
  fn_D t.l_draw.F sc_l_draw fun cdv A outer s H E hr tk =>
    (dss_cons (ds_if (DW.dt (dw_and (dt_cmp (op_eqS hr.units) eqD_ok (de_ix (ix_A (hu_of hr)) ixD_ok (de_var (pv 0)) de_int) de_int) (dw_and1 (dt_cmp op_lt cmpD_ok (de_ix (ix_A (hu_of hr)) ixD_ok (de_var (pv 0)) de_int) (de_callB call_lenA lenD_ok (da_cons (de_ix (ix_A (hu_of hr)) ixD_ok (de_var (pv 0)) de_int) da_nil) t.z_len))))) (dss_cons (ds_set (i := 2) sc_l_draw.nd rfl (by first | exact Or.inl rfl | exact Or.inr rfl) (de_ix (ix_A (hu_of hr)) ixD_ok (de_ix (ix_A (hu_of hr)) ixD_ok (de_var (pv 0)) de_int) (de_ix (ix_A (hu_of hr)) ixD_ok (de_var (pv 0)) de_int)))
    (dss_cons (ds_subS (hu_of hr) (de_var (pv 0)) de_int (de_bin op_addA addD_ok (de_ix (ix_A (hu_of hr)) ixD_ok (de_var (pv 0)) de_int) de_int))
    (dss_cons (ds_subS (hu_of hr) (de_var (pv 0)) de_int (de_bin op_mod modD_ok (de_callTy call_int1 intD_ok (da_cons (de_bin op_addA addD_ok (de_bin op_addA addD_ok (de_bin op_mulW mulD_ok (de_ix (ix_A (hu_of hr)) ixD_ok (de_var (pv 0)) de_int) de_int) (de_var (pv 2))) de_int) da_nil) t.z_int) de_int))
    (dss_one (ds_if (dt_cmp op_ge cmpD_ok (de_var (pv 2)) (de_bin op_pow powD_ok de_int de_int)) (dss_one (ds_subS (hu_of hr) (de_var (pv 0)) de_int (de_var (pv 2)))) dss_nil))))) dss_nil)
    (dss_cons (ds_if (dt_cmp op_gt cmpD_ok (de_ix (ix_A (hu_of hr)) ixD_ok (de_var (pv 0)) de_int) de_int) (dss_cons (ds_set (i := 3) sc_l_draw.nd rfl (by first | exact Or.inl rfl | exact Or.inr rfl) (de_bin op_mod modD_ok (de_callTy call_int1 intD_ok (da_cons (de_ix (ix_A (hu_of hr)) ixD_ok (de_var (pv 0)) de_int) da_nil) t.z_int) (de_var (pv 1))))
    (dss_cons (ds_subS (hu_of hr) (de_var (pv 0)) de_int (de_bin op_fdivW fdivD_ok (de_ix (ix_A (hu_of hr)) ixD_ok (de_var (pv 0)) de_int) (de_var (pv 1))))
    (dss_one (ds_ret (de_var (pv 3)))))) dss_nil)
    (dss_cons (ds_subS (hu_of hr) (de_var (pv 0)) de_int (de_bin op_addA addD_ok (de_ix (ix_A (hu_of hr)) ixD_ok (de_var (pv 0)) de_int) de_int))
    (dss_cons (ds_set (i := 4) sc_l_draw.nd rfl (by first | exact Or.inl rfl | exact Or.inr rfl) (de_bin op_mod modD_ok (de_callTy call_int1 intD_ok (da_cons (de_bin op_mulW mulD_ok (de_callTy call_int1 intD_ok (da_cons (de_bin op_addA addD_ok (de_ix (ix_A (hu_of hr)) ixD_ok (de_var (pv 0)) de_int) (de_bin op_mulW mulD_ok de_int (de_ix (ix_A (hu_of hr)) ixD_ok (de_var (pv 0)) de_int))) da_nil) t.z_int) de_int) da_nil) t.z_int) de_int))
    (dss_cons (ds_set (i := 4) sc_l_draw.nd rfl (by first | exact Or.inl rfl | exact Or.inr rfl) (de_bin op_mod modD_ok (de_callTy call_int1 intD_ok (da_cons (de_bin op_mulW mulD_ok (de_var (pv 4)) (de_bin op_addA addD_ok (de_bin op_fdivW fdivD_ok (de_var (pv 4)) de_int) de_int)) da_nil) t.z_int) de_int))
    (dss_cons (ds_set (i := 4) sc_l_draw.nd rfl (by first | exact Or.inl rfl | exact Or.inr rfl) (de_bin op_mod modD_ok (de_callTy call_int1 intD_ok (da_cons (de_bin op_mulW mulD_ok (de_var (pv 4)) (de_bin op_addA addD_ok (de_bin op_fdivW fdivD_ok (de_var (pv 4)) de_int) de_int)) da_nil) t.z_int) de_int))
    (dss_one (ds_ret (de_bin op_mod modD_ok (de_callTy call_int1 intD_ok (da_cons (de_bin op_fdivW fdivD_ok (de_var (pv 4)) de_int) da_nil) t.z_int) (de_var (pv 1)))))))))))
def B_l_some (G_l_draw : FS) : SS :=
    (sRet (eBin ixD (eVar 1) (eCall 2 G_l_draw (aCons (eVar 0) (aCons (eAr lenD (aCons (eVar 1) aNil)) aNil)))))
theorem body_l_some (t : Txt P K mg cl cd base) {G_l_draw : FS} (h_l_draw : FnG P w K mg base (L2.CX P w) 1 t.l_draw.f t.l_draw.fd ["hand", "many"] (spD K T 2 G_l_draw)) : FnG P w K mg base (L2.CX P w) (1 + 1) t.l_some.f t.l_some.fd ["hand", "things"] (spD K T 2 (fnD 2 (B_l_some G_l_draw))) :=
  fn_D t.l_some.F sc_l_some fun cdv A outer s H E hr tk =>
    (dss_one (ds_ret (de_ix (ix_A (hu_of hr)) ixD_ok (de_var (pv 1)) (de_call tk h_l_draw (hr.mono (by omega)) t.l_draw.m t.l_draw.F.kp t.l_draw.b (da_cons (de_var (pv 0)) (da_cons (de_callB call_lenA lenD_ok (da_cons (de_var (pv 1)) da_nil) t.z_len) da_nil))))))
def B_l_kinds (K : PySem.W.Frag) (cl : Str → Addr) : SS :=
    (sSeq (sSet 1 (eLst (aCons (eAr (isXD K) (aCons (eVar 0) (aCons (eC (.ref (cl "BadDeed"))) aNil))) (aCons (eAr (isXD K) (aCons (eVar 0) (aCons (eC (.ref (cl "BadDisk"))) aNil))) (aCons (eAr (isXD K) (aCons (eVar 0) (aCons (eC (.ref (cl "BadKept"))) aNil))) (aCons (eAr (isXD K) (aCons (eVar 0) (aCons (eC (.ref (cl "BadStore"))) aNil))) aNil))))))
    (sSeq (sSet 1 (eBin addD (eVar 1) (eLst (aCons (eAr (isXD K) (aCons (eVar 0) (aCons (eC (.ref (cl "BadText"))) aNil))) aNil))))
    (sSeq (sSet 1 (eBin addD (eVar 1) (eLst (aCons (eAr (isXD K) (aCons (eVar 0) (aCons (eC (.ref (cl "Barred"))) aNil))) (aCons (eAr (isXD K) (aCons (eVar 0) (aCons (eC (.ref (cl "Down"))) aNil))) (aCons (eAr (isXD K) (aCons (eVar 0) (aCons (eC (.ref (cl "Full"))) aNil))) (aCons (eAr (isXD K) (aCons (eVar 0) (aCons (eC (.ref (cl "Here"))) aNil))) aNil)))))))
    (sSeq (sSet 1 (eBin addD (eVar 1) (eLst (aCons (eAr (isXD K) (aCons (eVar 0) (aCons (eC (.ref (cl "NoArea"))) aNil))) (aCons (eAr (isXD K) (aCons (eVar 0) (aCons (eC (.ref (cl "NoBook"))) aNil))) (aCons (eAr (isXD K) (aCons (eVar 0) (aCons (eC (.ref (cl "NoClosed"))) aNil))) aNil))))))
    (sSeq (sSet 1 (eBin addD (eVar 1) (eLst (aCons (eAr (isXD K) (aCons (eVar 0) (aCons (eC (.ref (cl "NoDeed"))) aNil))) (aCons (eAr (isXD K) (aCons (eVar 0) (aCons (eC (.ref (cl "NoEdit"))) aNil))) (aCons (eAr (isXD K) (aCons (eVar 0) (aCons (eC (.ref (cl "NoFact"))) aNil))) aNil))))))
    (sSeq (sSet 1 (eBin addD (eVar 1) (eLst (aCons (eAr (isXD K) (aCons (eVar 0) (aCons (eC (.ref (cl "NoFacts"))) aNil))) (aCons (eAr (isXD K) (aCons (eVar 0) (aCons (eC (.ref (cl "NoLetter"))) aNil))) (aCons (eAr (isXD K) (aCons (eVar 0) (aCons (eC (.ref (cl "NoLife"))) aNil))) aNil))))))
    (sSeq (sSet 1 (eBin addD (eVar 1) (eLst (aCons (eAr (isXD K) (aCons (eVar 0) (aCons (eC (.ref (cl "NoLot"))) aNil))) (aCons (eAr (isXD K) (aCons (eVar 0) (aCons (eC (.ref (cl "NoMark"))) aNil))) (aCons (eAr (isXD K) (aCons (eVar 0) (aCons (eC (.ref (cl "NoName"))) aNil))) aNil))))))
    (sSeq (sSet 1 (eBin addD (eVar 1) (eLst (aCons (eAr (isXD K) (aCons (eVar 0) (aCons (eC (.ref (cl "NoNumber"))) aNil))) (aCons (eAr (isXD K) (aCons (eVar 0) (aCons (eC (.ref (cl "NoPattern"))) aNil))) (aCons (eAr (isXD K) (aCons (eVar 0) (aCons (eC (.ref (cl "NoPlan"))) aNil))) aNil))))))
    (sSeq (sSet 1 (eBin addD (eVar 1) (eLst (aCons (eAr (isXD K) (aCons (eVar 0) (aCons (eC (.ref (cl "NoPrime"))) aNil))) (aCons (eAr (isXD K) (aCons (eVar 0) (aCons (eC (.ref (cl "NoRoot"))) aNil))) (aCons (eAr (isXD K) (aCons (eVar 0) (aCons (eC (.ref (cl "NoRow"))) aNil))) aNil))))))
    (sSeq (sSet 1 (eBin addD (eVar 1) (eLst (aCons (eAr (isXD K) (aCons (eVar 0) (aCons (eC (.ref (cl "NoRows"))) aNil))) (aCons (eAr (isXD K) (aCons (eVar 0) (aCons (eC (.ref (cl "NoRule"))) aNil))) (aCons (eAr (isXD K) (aCons (eVar 0) (aCons (eC (.ref (cl "NoSchema"))) aNil))) aNil))))))
    (sSeq (sSet 1 (eBin addD (eVar 1) (eLst (aCons (eAr (isXD K) (aCons (eVar 0) (aCons (eC (.ref (cl "NoShowing"))) aNil))) (aCons (eAr (isXD K) (aCons (eVar 0) (aCons (eC (.ref (cl "NoStore"))) aNil))) (aCons (eAr (isXD K) (aCons (eVar 0) (aCons (eC (.ref (cl "NoStretch"))) aNil))) aNil))))))
    (sSeq (sSet 1 (eBin addD (eVar 1) (eLst (aCons (eAr (isXD K) (aCons (eVar 0) (aCons (eC (.ref (cl "NoTables"))) aNil))) (aCons (eAr (isXD K) (aCons (eVar 0) (aCons (eC (.ref (cl "NoText"))) aNil))) (aCons (eAr (isXD K) (aCons (eVar 0) (aCons (eC (.ref (cl "NoView"))) aNil))) aNil))))))
    (sSeq (sSet 1 (eBin addD (eVar 1) (eLst (aCons (eAr (isXD K) (aCons (eVar 0) (aCons (eC (.ref (cl "NotHere"))) aNil))) (aCons (eAr (isXD K) (aCons (eVar 0) (aCons (eC (.ref (cl "NotYet"))) aNil))) (aCons (eAr (isXD K) (aCons (eVar 0) (aCons (eC (.ref (cl "OtherPrime"))) aNil))) aNil))))))
    (sSeq (sSet 1 (eBin addD (eVar 1) (eLst (aCons (eAr (isXD K) (aCons (eVar 0) (aCons (eC (.ref (cl "OtherSchema"))) aNil))) (aCons (eAr (isXD K) (aCons (eVar 0) (aCons (eC (.ref (cl "TooMany"))) aNil))) (aCons (eAr (isXD K) (aCons (eVar 0) (aCons (eC (.ref (cl "TooSmall"))) aNil))) aNil))))))
    (sSeq (sSet 1 (eBin addD (eVar 1) (eLst (aCons (eAr (isXD K) (aCons (eVar 0) (aCons (eC (.ref (cl "Unsafe"))) aNil))) aNil))))
    (sRet (eVar 1)))))))))))))))))
theorem body_l_kinds (t : Txt P K mg cl cd base) : FnG P w K mg base (L2.CX P w) (0 + 1) t.l_kinds.f t.l_kinds.fd ["one"] (spD K T 1 (fnD 2 (B_l_kinds K cl))) :=
  fn_D t.l_kinds.F sc_l_kinds fun cdv A outer s H E hr tk =>
    (dss_cons (ds_set (i := 1) sc_l_kinds.nd rfl (by first | exact Or.inl rfl | exact Or.inr rfl) (de_lst (da_cons (de_callB call_isX isXD_ok (da_cons (de_var (pv 0)) (da_cons (de_cls t.k_BadDeed) da_nil)) t.z_isinstance) (da_cons (de_callB call_isX isXD_ok (da_cons (de_var (pv 0)) (da_cons (de_cls t.k_BadDisk) da_nil)) t.z_isinstance) (da_cons (de_callB call_isX isXD_ok (da_cons (de_var (pv 0)) (da_cons (de_cls t.k_BadKept) da_nil)) t.z_isinstance) (da_cons (de_callB call_isX isXD_ok (da_cons (de_var (pv 0)) (da_cons (de_cls t.k_BadStore) da_nil)) t.z_isinstance) da_nil))))))
    (dss_cons (ds_set (i := 1) sc_l_kinds.nd rfl (by first | exact Or.inl rfl | exact Or.inr rfl) (de_bin op_addA addD_ok (de_var (pv 1)) (de_lst (da_cons (de_callB call_isX isXD_ok (da_cons (de_var (pv 0)) (da_cons (de_cls t.k_BadText) da_nil)) t.z_isinstance) da_nil))))
    (dss_cons (ds_set (i := 1) sc_l_kinds.nd rfl (by first | exact Or.inl rfl | exact Or.inr rfl) (de_bin op_addA addD_ok (de_var (pv 1)) (de_lst (da_cons (de_callB call_isX isXD_ok (da_cons (de_var (pv 0)) (da_cons (de_cls t.k_Barred) da_nil)) t.z_isinstance) (da_cons (de_callB call_isX isXD_ok (da_cons (de_var (pv 0)) (da_cons (de_cls t.k_Down) da_nil)) t.z_isinstance) (da_cons (de_callB call_isX isXD_ok (da_cons (de_var (pv 0)) (da_cons (de_cls t.k_Full) da_nil)) t.z_isinstance) (da_cons (de_callB call_isX isXD_ok (da_cons (de_var (pv 0)) (da_cons (de_cls t.k_Here) da_nil)) t.z_isinstance) da_nil)))))))
    (dss_cons (ds_set (i := 1) sc_l_kinds.nd rfl (by first | exact Or.inl rfl | exact Or.inr rfl) (de_bin op_addA addD_ok (de_var (pv 1)) (de_lst (da_cons (de_callB call_isX isXD_ok (da_cons (de_var (pv 0)) (da_cons (de_cls t.k_NoArea) da_nil)) t.z_isinstance) (da_cons (de_callB call_isX isXD_ok (da_cons (de_var (pv 0)) (da_cons (de_cls t.k_NoBook) da_nil)) t.z_isinstance) (da_cons (de_callB call_isX isXD_ok (da_cons (de_var (pv 0)) (da_cons (de_cls t.k_NoClosed) da_nil)) t.z_isinstance) da_nil))))))
    (dss_cons (ds_set (i := 1) sc_l_kinds.nd rfl (by first | exact Or.inl rfl | exact Or.inr rfl) (de_bin op_addA addD_ok (de_var (pv 1)) (de_lst (da_cons (de_callB call_isX isXD_ok (da_cons (de_var (pv 0)) (da_cons (de_cls t.k_NoDeed) da_nil)) t.z_isinstance) (da_cons (de_callB call_isX isXD_ok (da_cons (de_var (pv 0)) (da_cons (de_cls t.k_NoEdit) da_nil)) t.z_isinstance) (da_cons (de_callB call_isX isXD_ok (da_cons (de_var (pv 0)) (da_cons (de_cls t.k_NoFact) da_nil)) t.z_isinstance) da_nil))))))
    (dss_cons (ds_set (i := 1) sc_l_kinds.nd rfl (by first | exact Or.inl rfl | exact Or.inr rfl) (de_bin op_addA addD_ok (de_var (pv 1)) (de_lst (da_cons (de_callB call_isX isXD_ok (da_cons (de_var (pv 0)) (da_cons (de_cls t.k_NoFacts) da_nil)) t.z_isinstance) (da_cons (de_callB call_isX isXD_ok (da_cons (de_var (pv 0)) (da_cons (de_cls t.k_NoLetter) da_nil)) t.z_isinstance) (da_cons (de_callB call_isX isXD_ok (da_cons (de_var (pv 0)) (da_cons (de_cls t.k_NoLife) da_nil)) t.z_isinstance) da_nil))))))
    (dss_cons (ds_set (i := 1) sc_l_kinds.nd rfl (by first | exact Or.inl rfl | exact Or.inr rfl) (de_bin op_addA addD_ok (de_var (pv 1)) (de_lst (da_cons (de_callB call_isX isXD_ok (da_cons (de_var (pv 0)) (da_cons (de_cls t.k_NoLot) da_nil)) t.z_isinstance) (da_cons (de_callB call_isX isXD_ok (da_cons (de_var (pv 0)) (da_cons (de_cls t.k_NoMark) da_nil)) t.z_isinstance) (da_cons (de_callB call_isX isXD_ok (da_cons (de_var (pv 0)) (da_cons (de_cls t.k_NoName) da_nil)) t.z_isinstance) da_nil))))))
    (dss_cons (ds_set (i := 1) sc_l_kinds.nd rfl (by first | exact Or.inl rfl | exact Or.inr rfl) (de_bin op_addA addD_ok (de_var (pv 1)) (de_lst (da_cons (de_callB call_isX isXD_ok (da_cons (de_var (pv 0)) (da_cons (de_cls t.k_NoNumber) da_nil)) t.z_isinstance) (da_cons (de_callB call_isX isXD_ok (da_cons (de_var (pv 0)) (da_cons (de_cls t.k_NoPattern) da_nil)) t.z_isinstance) (da_cons (de_callB call_isX isXD_ok (da_cons (de_var (pv 0)) (da_cons (de_cls t.k_NoPlan) da_nil)) t.z_isinstance) da_nil))))))
    (dss_cons (ds_set (i := 1) sc_l_kinds.nd rfl (by first | exact Or.inl rfl | exact Or.inr rfl) (de_bin op_addA addD_ok (de_var (pv 1)) (de_lst (da_cons (de_callB call_isX isXD_ok (da_cons (de_var (pv 0)) (da_cons (de_cls t.k_NoPrime) da_nil)) t.z_isinstance) (da_cons (de_callB call_isX isXD_ok (da_cons (de_var (pv 0)) (da_cons (de_cls t.k_NoRoot) da_nil)) t.z_isinstance) (da_cons (de_callB call_isX isXD_ok (da_cons (de_var (pv 0)) (da_cons (de_cls t.k_NoRow) da_nil)) t.z_isinstance) da_nil))))))
    (dss_cons (ds_set (i := 1) sc_l_kinds.nd rfl (by first | exact Or.inl rfl | exact Or.inr rfl) (de_bin op_addA addD_ok (de_var (pv 1)) (de_lst (da_cons (de_callB call_isX isXD_ok (da_cons (de_var (pv 0)) (da_cons (de_cls t.k_NoRows) da_nil)) t.z_isinstance) (da_cons (de_callB call_isX isXD_ok (da_cons (de_var (pv 0)) (da_cons (de_cls t.k_NoRule) da_nil)) t.z_isinstance) (da_cons (de_callB call_isX isXD_ok (da_cons (de_var (pv 0)) (da_cons (de_cls t.k_NoSchema) da_nil)) t.z_isinstance) da_nil))))))
    (dss_cons (ds_set (i := 1) sc_l_kinds.nd rfl (by first | exact Or.inl rfl | exact Or.inr rfl) (de_bin op_addA addD_ok (de_var (pv 1)) (de_lst (da_cons (de_callB call_isX isXD_ok (da_cons (de_var (pv 0)) (da_cons (de_cls t.k_NoShowing) da_nil)) t.z_isinstance) (da_cons (de_callB call_isX isXD_ok (da_cons (de_var (pv 0)) (da_cons (de_cls t.k_NoStore) da_nil)) t.z_isinstance) (da_cons (de_callB call_isX isXD_ok (da_cons (de_var (pv 0)) (da_cons (de_cls t.k_NoStretch) da_nil)) t.z_isinstance) da_nil))))))
    (dss_cons (ds_set (i := 1) sc_l_kinds.nd rfl (by first | exact Or.inl rfl | exact Or.inr rfl) (de_bin op_addA addD_ok (de_var (pv 1)) (de_lst (da_cons (de_callB call_isX isXD_ok (da_cons (de_var (pv 0)) (da_cons (de_cls t.k_NoTables) da_nil)) t.z_isinstance) (da_cons (de_callB call_isX isXD_ok (da_cons (de_var (pv 0)) (da_cons (de_cls t.k_NoText) da_nil)) t.z_isinstance) (da_cons (de_callB call_isX isXD_ok (da_cons (de_var (pv 0)) (da_cons (de_cls t.k_NoView) da_nil)) t.z_isinstance) da_nil))))))
    (dss_cons (ds_set (i := 1) sc_l_kinds.nd rfl (by first | exact Or.inl rfl | exact Or.inr rfl) (de_bin op_addA addD_ok (de_var (pv 1)) (de_lst (da_cons (de_callB call_isX isXD_ok (da_cons (de_var (pv 0)) (da_cons (de_cls t.k_NotHere) da_nil)) t.z_isinstance) (da_cons (de_callB call_isX isXD_ok (da_cons (de_var (pv 0)) (da_cons (de_cls t.k_NotYet) da_nil)) t.z_isinstance) (da_cons (de_callB call_isX isXD_ok (da_cons (de_var (pv 0)) (da_cons (de_cls t.k_OtherPrime) da_nil)) t.z_isinstance) da_nil))))))
    (dss_cons (ds_set (i := 1) sc_l_kinds.nd rfl (by first | exact Or.inl rfl | exact Or.inr rfl) (de_bin op_addA addD_ok (de_var (pv 1)) (de_lst (da_cons (de_callB call_isX isXD_ok (da_cons (de_var (pv 0)) (da_cons (de_cls t.k_OtherSchema) da_nil)) t.z_isinstance) (da_cons (de_callB call_isX isXD_ok (da_cons (de_var (pv 0)) (da_cons (de_cls t.k_TooMany) da_nil)) t.z_isinstance) (da_cons (de_callB call_isX isXD_ok (da_cons (de_var (pv 0)) (da_cons (de_cls t.k_TooSmall) da_nil)) t.z_isinstance) da_nil))))))
    (dss_cons (ds_set (i := 1) sc_l_kinds.nd rfl (by first | exact Or.inl rfl | exact Or.inr rfl) (de_bin op_addA addD_ok (de_var (pv 1)) (de_lst (da_cons (de_callB call_isX isXD_ok (da_cons (de_var (pv 0)) (da_cons (de_cls t.k_Unsafe) da_nil)) t.z_isinstance) da_nil))))
    (dss_one (ds_ret (de_var (pv 1)))))))))))))))))))
def B_l_plain (cl : Str → Addr) : SS :=
    (sSeq (sSet 1 (eLst (aCons (eErr (.ref (cl "BadDeed")) [] aNil) (aCons (eErr (.ref (cl "Down")) [] aNil) (aCons (eErr (.ref (cl "Here")) [] aNil) (aCons (eErr (.ref (cl "NoArea")) [] aNil) (aCons (eErr (.ref (cl "NoBook")) [] aNil) (aCons (eErr (.ref (cl "NoClosed")) [] aNil) (aCons (eErr (.ref (cl "NoDeed")) [] aNil) (aCons (eErr (.ref (cl "NoEdit")) [] aNil) (aCons (eErr (.ref (cl "NoFact")) [] aNil) (aCons (eErr (.ref (cl "NoFacts")) [] aNil) aNil))))))))))))
    (sSeq (sSet 1 (eBin addD (eVar 1) (eLst (aCons (eErr (.ref (cl "NoLetter")) [] aNil) aNil))))
    (sSeq (sSet 1 (eBin addD (eVar 1) (eLst (aCons (eErr (.ref (cl "NoLife")) [] aNil) (aCons (eErr (.ref (cl "NoLot")) [] aNil) (aCons (eErr (.ref (cl "NoMark")) [] aNil) (aCons (eErr (.ref (cl "NoName")) [] aNil) (aCons (eErr (.ref (cl "NoNumber")) [] aNil) (aCons (eErr (.ref (cl "NoPattern")) [] aNil) (aCons (eErr (.ref (cl "NoPlan")) [] aNil) (aCons (eErr (.ref (cl "NoPrime")) [] aNil) (aCons (eErr (.ref (cl "NoRoot")) [] aNil) aNil))))))))))))
    (sSeq (sSet 1 (eBin addD (eVar 1) (eLst (aCons (eErr (.ref (cl "NoRow")) [] aNil) (aCons (eErr (.ref (cl "NoRows")) [] aNil) (aCons (eErr (.ref (cl "NoRule")) [] aNil) (aCons (eErr (.ref (cl "NoSchema")) [] aNil) (aCons (eErr (.ref (cl "NoShowing")) [] aNil) (aCons (eErr (.ref (cl "NoStore")) [] aNil) (aCons (eErr (.ref (cl "NoStretch")) [] aNil) (aCons (eErr (.ref (cl "NoTables")) [] aNil) aNil)))))))))))
    (sSeq (sSet 1 (eBin addD (eVar 1) (eLst (aCons (eErr (.ref (cl "NoText")) [] aNil) (aCons (eErr (.ref (cl "NoView")) [] aNil) (aCons (eErr (.ref (cl "NotHere")) [] aNil) (aCons (eErr (.ref (cl "OtherPrime")) [] aNil) (aCons (eErr (.ref (cl "OtherSchema")) [] aNil) (aCons (eErr (.ref (cl "TooSmall")) [] aNil) (aCons (eErr (.ref (cl "Unsafe")) [] aNil) aNil))))))))))
    (sRet (eVar 1)))))))
theorem body_l_plain (t : Txt P K mg cl cd base) : FnG P w K mg base (L2.CX P w) (0 + 1) t.l_plain.f t.l_plain.fd ["hand"] (spD K T 1 (fnD 2 (B_l_plain cl))) :=
  fn_D t.l_plain.F sc_l_plain fun cdv A outer s H E hr tk =>
    (dss_cons (ds_set (i := 1) sc_l_plain.nd rfl (by first | exact Or.inl rfl | exact Or.inr rfl) (de_lst (da_cons (de_err0 t.r_BadDeed) (da_cons (de_err0 t.r_Down) (da_cons (de_err0 t.r_Here) (da_cons (de_err0 t.r_NoArea) (da_cons (de_err0 t.r_NoBook) (da_cons (de_err0 t.r_NoClosed) (da_cons (de_err0 t.r_NoDeed) (da_cons (de_err0 t.r_NoEdit) (da_cons (de_err0 t.r_NoFact) (da_cons (de_err0 t.r_NoFacts) da_nil))))))))))))
    (dss_cons (ds_set (i := 1) sc_l_plain.nd rfl (by first | exact Or.inl rfl | exact Or.inr rfl) (de_bin op_addA addD_ok (de_var (pv 1)) (de_lst (da_cons (de_err0 t.r_NoLetter) da_nil))))
    (dss_cons (ds_set (i := 1) sc_l_plain.nd rfl (by first | exact Or.inl rfl | exact Or.inr rfl) (de_bin op_addA addD_ok (de_var (pv 1)) (de_lst (da_cons (de_err0 t.r_NoLife) (da_cons (de_err0 t.r_NoLot) (da_cons (de_err0 t.r_NoMark) (da_cons (de_err0 t.r_NoName) (da_cons (de_err0 t.r_NoNumber) (da_cons (de_err0 t.r_NoPattern) (da_cons (de_err0 t.r_NoPlan) (da_cons (de_err0 t.r_NoPrime) (da_cons (de_err0 t.r_NoRoot) da_nil))))))))))))
    (dss_cons (ds_set (i := 1) sc_l_plain.nd rfl (by first | exact Or.inl rfl | exact Or.inr rfl) (de_bin op_addA addD_ok (de_var (pv 1)) (de_lst (da_cons (de_err0 t.r_NoRow) (da_cons (de_err0 t.r_NoRows) (da_cons (de_err0 t.r_NoRule) (da_cons (de_err0 t.r_NoSchema) (da_cons (de_err0 t.r_NoShowing) (da_cons (de_err0 t.r_NoStore) (da_cons (de_err0 t.r_NoStretch) (da_cons (de_err0 t.r_NoTables) da_nil)))))))))))
    (dss_cons (ds_set (i := 1) sc_l_plain.nd rfl (by first | exact Or.inl rfl | exact Or.inr rfl) (de_bin op_addA addD_ok (de_var (pv 1)) (de_lst (da_cons (de_err0 t.r_NoText) (da_cons (de_err0 t.r_NoView) (da_cons (de_err0 t.r_NotHere) (da_cons (de_err0 t.r_OtherPrime) (da_cons (de_err0 t.r_OtherSchema) (da_cons (de_err0 t.r_TooSmall) (da_cons (de_err0 t.r_Unsafe) da_nil))))))))))
    (dss_one (ds_ret (de_var (pv 1)))))))))
def B_l_filled (K : PySem.W.Frag) (cl : Str → Addr) : SS :=
    (sSeq (sSet 1 (eLst (aCons (eErr (.ref (cl "BadDisk")) ["part"] (aCons (eVar 0) aNil)) (aCons (eErr (.ref (cl "BadKept")) ["area"] (aCons (eVar 0) aNil)) (aCons (eErr (.ref (cl "BadStore")) ["index"] (aCons (eVar 0) aNil)) (aCons (eErr (.ref (cl "BadText")) ["place"] (aCons (eVar 0) aNil)) (aCons (eErr (.ref (cl "Barred")) ["bar"] (aCons (eVar 0) aNil)) (aCons (eErr (.ref (cl "Full")) ["area"] (aCons (eVar 0) aNil)) (aCons (eErr (.ref (cl "NotYet")) ["lacking"] (aCons (eVar 0) aNil)) aNil)))))))))
    (sSeq (sSet 2 (eLst (aCons (eFldE K "part" (eBin ixD (eVar 1) (eC (.int 0)))) (aCons (eFldE K "area" (eBin ixD (eVar 1) (eC (.int 1)))) (aCons (eFldE K "index" (eBin ixD (eVar 1) (eC (.int 2)))) (aCons (eFldE K "place" (eBin ixD (eVar 1) (eC (.int 3)))) (aCons (eFldE K "bar" (eBin ixD (eVar 1) (eC (.int 4)))) (aCons (eFldE K "area" (eBin ixD (eVar 1) (eC (.int 5)))) (aCons (eFldE K "lacking" (eBin ixD (eVar 1) (eC (.int 6)))) aNil)))))))))
    (sSeq (sSet 3 (eErr (.ref (cl "TooMany")) ["most"] (aCons (eVar 0) aNil)))
    (sRet (eLz (aCons (eBin addD (eVar 1) (eLst (aCons (eVar 3) aNil))) (aCons (eBin addD (eVar 2) (eLst (aCons (eFldE K "most" (eVar 3)) aNil))) aNil)))))))
theorem body_l_filled (t : Txt P K mg cl cd base) : FnG P w K mg base (L2.CX P w) (1 + 1) t.l_filled.f t.l_filled.fd ["thing"] (spD K T 1 (fnD 4 (B_l_filled K cl))) :=
  fn_D t.l_filled.F sc_l_filled fun cdv A outer s H E hr tk =>
    (dss_cons (ds_set (i := 1) sc_l_filled.nd rfl (by first | exact Or.inl rfl | exact Or.inr rfl) (de_lst (da_cons (de_errI t.i_BadDisk (hr.r.mono (by omega)) (da_cons (de_var (pv 0)) da_nil)) (da_cons (de_errI t.i_BadKept (hr.r.mono (by omega)) (da_cons (de_var (pv 0)) da_nil)) (da_cons (de_errI t.i_BadStore (hr.r.mono (by omega)) (da_cons (de_var (pv 0)) da_nil)) (da_cons (de_errI t.i_BadText (hr.r.mono (by omega)) (da_cons (de_var (pv 0)) da_nil)) (da_cons (de_errI t.i_Barred (hr.r.mono (by omega)) (da_cons (de_var (pv 0)) da_nil)) (da_cons (de_errI t.i_Full (hr.r.mono (by omega)) (da_cons (de_var (pv 0)) da_nil)) (da_cons (de_errI t.i_NotYet (hr.r.mono (by omega)) (da_cons (de_var (pv 0)) da_nil)) da_nil)))))))))
    (dss_cons (ds_set (i := 2) sc_l_filled.nd rfl (by first | exact Or.inl rfl | exact Or.inr rfl) (de_lst (da_cons (de_fldE (de_ix (ix_A (hu_of hr)) ixD_ok (de_var (pv 1)) de_int)) (da_cons (de_fldE (de_ix (ix_A (hu_of hr)) ixD_ok (de_var (pv 1)) de_int)) (da_cons (de_fldE (de_ix (ix_A (hu_of hr)) ixD_ok (de_var (pv 1)) de_int)) (da_cons (de_fldE (de_ix (ix_A (hu_of hr)) ixD_ok (de_var (pv 1)) de_int)) (da_cons (de_fldE (de_ix (ix_A (hu_of hr)) ixD_ok (de_var (pv 1)) de_int)) (da_cons (de_fldE (de_ix (ix_A (hu_of hr)) ixD_ok (de_var (pv 1)) de_int)) (da_cons (de_fldE (de_ix (ix_A (hu_of hr)) ixD_ok (de_var (pv 1)) de_int)) da_nil)))))))))
    (dss_cons (ds_set (i := 3) sc_l_filled.nd rfl (by first | exact Or.inl rfl | exact Or.inr rfl) (de_errI t.i_TooMany (hr.r.mono (by omega)) (da_cons (de_var (pv 0)) da_nil)))
    (dss_one (ds_ret (de_listZip t.z_list t.z_zip (da_cons (de_bin op_addA addD_ok (de_var (pv 1)) (de_lst (da_cons (de_var (pv 3)) da_nil))) (da_cons (de_bin op_addA addD_ok (de_var (pv 2)) (de_lst (da_cons (de_fldE (de_var (pv 3))) da_nil))) da_nil))))))))
def B_l_thing (G_l_some : FS) : SS :=
    (sSeq (sSet 1 (eLst (aCons (eC .non) (aCons (eC (.int 0)) (aCons (eUn negD (eC (.int 1))) (aCons (eBin powD (eC (.int 10)) (eC (.int 30))) (aCons (eC (.bl true)) (aCons (eC (.str "")) (aCons (eC (.str "area")) (aCons (eTup aNil) (aCons (eTup (aCons (eC (.int 1)) (aCons (eTup (aCons (eC (.int 2)) (aCons (eC (.int 3)) aNil))) aNil))) (aCons (eLst (aCons (eC (.int 4)) (aCons (eLst (aCons (eC (.int 5)) aNil)) aNil))) (aCons (eDisp (pCons (eC (.str "a")) (eC (.int 1)) pNil)) (aCons (eTup (aCons (eC (.str "unsafe")) (aCons (eC (.str "one")) aNil))) aNil))))))))))))))
    (sRet (eCall 2 G_l_some (aCons (eVar 0) (aCons (eBin addD (eVar 1) (eLst (aCons (eTup (aCons (eTup (aCons (eC (.int 7)) (aCons (eC (.int 1)) (aCons (eC (.int 2)) aNil)))) aNil)) aNil))) aNil)))))
theorem body_l_thing (t : Txt P K mg cl cd base) {G_l_some : FS} (h_l_some : FnG P w K mg base (L2.CX P w) 2 t.l_some.f t.l_some.fd ["hand", "things"] (spD K T 2 G_l_some)) : FnG P w K mg base (L2.CX P w) (2 + 1) t.l_thing.f t.l_thing.fd ["hand"] (spD K T 1 (fnD 2 (B_l_thing G_l_some))) :=
  fn_D t.l_thing.F sc_l_thing fun cdv A outer s H E hr tk =>
    (dss_cons (ds_set (i := 1) sc_l_thing.nd rfl (by first | exact Or.inl rfl | exact Or.inr rfl) (de_lst (da_cons de_non (da_cons de_int (da_cons (de_un un_neg negD_ok de_int) (da_cons (de_bin op_pow powD_ok de_int de_int) (da_cons de_bl (da_cons de_str (da_cons de_str (da_cons (de_tup da_nil) (da_cons (de_tup (da_cons de_int (da_cons (de_tup (da_cons de_int (da_cons de_int da_nil))) da_nil))) (da_cons (de_lst (da_cons de_int (da_cons (de_lst (da_cons de_int da_nil)) da_nil))) (da_cons (de_disp (dps_cons de_str de_int dps_nil)) (da_cons (de_tup (da_cons de_str (da_cons de_str da_nil))) da_nil))))))))))))))
    (dss_one (ds_ret (de_call tk h_l_some (hr.mono (by omega)) t.l_some.m t.l_some.F.kp t.l_some.b (da_cons (de_var (pv 0)) (da_cons (de_bin op_addA addD_ok (de_var (pv 1)) (de_lst (da_cons (de_tup (da_cons (de_tup (da_cons de_int (da_cons de_int (da_cons de_int da_nil)))) da_nil)) da_nil))) da_nil))))))
def B_law (K : PySem.W.Frag) (cl : Str → Addr) (G_l_hand : FS) (G_l_plain : FS) (G_l_thing : FS) (G_l_filled : FS) (G_l_kinds : FS) : SS :=
    (sSeq (sSet 1 (eCall 1 G_l_hand (aCons (eVar 0) aNil)))
    (sSeq (sSet 2 (eCall 1 G_l_plain (aCons (eVar 1) aNil)))
    (sSeq (sIf (bTest (eBin neD (eAr lenD (aCons (eVar 2) aNil)) (eC (.int 35)))) (sRet (eC (.bl false))) sSkip)
    (sSeq (sSet 3 (eCall 1 G_l_thing (aCons (eVar 1) aNil)))
    (sSeq (sSet 4 (eCall 1 G_l_filled (aCons (eVar 3) aNil)))
    (sSeq (sIf (bNot (bTru (eAr allD (aCons (eLc (iSeq (eVar 4)) (gT 2 (gsCons (gN 5) (gsCons (gN 7) gsNil))) [5, 7] bYes (eBin eqD (eAr reprXD (aCons (eVar 7) aNil)) (eAr reprXD (aCons (eVar 3) aNil)))) aNil)))) (sRet (eC (.bl false))) sSkip)
    (sSeq (sFor (iSeq (eBin addD (eVar 2) (eLc (iSeq (eVar 4)) (gT 2 (gsCons (gN 5) (gsCons (gN 7) gsNil))) [5, 7] bYes (eVar 5)))) (gN 5) (sSeq (sSet 6 (eCall 1 G_l_kinds (aCons (eVar 5) aNil)))
    (sIf (bOr (bTest (eBin neD (eMt "list" countBD (eVar 6) (aCons (eC (.bl true)) aNil)) (eC (.int 1)))) (bOr (bNot (bTru (eAr (isXD K) (aCons (eVar 5) (aCons (eC (.ref (cl "ViewError"))) aNil))))) (bNot (bTru (eAr (isXD K) (aCons (eVar 5) (aCons (eC (.ty "ValueError")) aNil))))))) (sRet (eC (.bl false))) sSkip)))
    (sRet (eNot (eAr anyD (aCons (eLst (aCons (eBin inD (eC (.bl true)) (eCall 1 G_l_kinds (aCons (eErrB (.type "ValueError") (aCons (eC (.str "one")) aNil)) aNil))) (aCons (eAr (isXD K) (aCons (eErrB (.type "ValueError") (aCons (eC (.str "one")) aNil)) (aCons (eC (.ref (cl "ViewError"))) aNil))) aNil))) aNil)))))))))))
theorem body_law (t : Txt P K mg cl cd base) {G_l_hand : FS} (h_l_hand : FnG P w K mg base (L2.CX P w) 1 t.l_hand.f t.l_hand.fd ["script"] (spD K T 1 G_l_hand)) {G_l_plain : FS} (h_l_plain : FnG P w K mg base (L2.CX P w) 1 t.l_plain.f t.l_plain.fd ["hand"] (spD K T 1 G_l_plain)) {G_l_thing : FS} (h_l_thing : FnG P w K mg base (L2.CX P w) 3 t.l_thing.f t.l_thing.fd ["hand"] (spD K T 1 G_l_thing)) {G_l_filled : FS} (h_l_filled : FnG P w K mg base (L2.CX P w) 2 t.l_filled.f t.l_filled.fd ["thing"] (spD K T 1 G_l_filled)) {G_l_kinds : FS} (h_l_kinds : FnG P w K mg base (L2.CX P w) 1 t.l_kinds.f t.l_kinds.fd ["one"] (spD K T 1 G_l_kinds)) : FnG P w K mg base (L2.CX P w) (3 + 1) t.law.f t.law.fd ["script"] (spD K T 1 (fnD 8 (B_law K cl G_l_hand G_l_plain G_l_thing G_l_filled G_l_kinds))) :=
  fn_D t.law.F sc_law fun cdv A outer s H E hr tk =>
    (dss_cons (ds_set (i := 1) sc_law.nd rfl (by first | exact Or.inl rfl | exact Or.inr rfl) (de_call tk h_l_hand (hr.mono (by omega)) t.l_hand.m t.l_hand.F.kp t.l_hand.b (da_cons (de_var (pv 0)) da_nil)))
    (dss_cons (ds_set (i := 2) sc_law.nd rfl (by first | exact Or.inl rfl | exact Or.inr rfl) (de_call tk h_l_plain (hr.mono (by omega)) t.l_plain.m t.l_plain.F.kp t.l_plain.b (da_cons (de_var (pv 1)) da_nil)))
    (dss_cons (ds_if (dt_cmp (op_neS hr.units) neD_ok (de_callB call_lenA lenD_ok (da_cons (de_var (pv 2)) da_nil) t.z_len) de_int) (dss_one (ds_ret de_bl)) dss_nil)
    (dss_cons (ds_set (i := 3) sc_law.nd rfl (by first | exact Or.inl rfl | exact Or.inr rfl) (de_call tk h_l_thing (hr.mono (by omega)) t.l_thing.m t.l_thing.F.kp t.l_thing.b (da_cons (de_var (pv 1)) da_nil)))
    (dss_cons (ds_set (i := 4) sc_law.nd rfl (by first | exact Or.inl rfl | exact Or.inr rfl) (de_call tk h_l_filled (hr.mono (by omega)) t.l_filled.m t.l_filled.F.kp t.l_filled.b (da_cons (de_var (pv 3)) da_nil)))
    (dss_cons (ds_if (dt_not (dt_tru (de_callB (cr_all rfl) allD_ok (da_cons (de_lc (own := [("error", 5), ("kept", 7)]) rfl sc_law.nd (di_seq (de_var (pv 4))) (blkOk_by (by kernel_rfl)) (fun _ _ _ _ _ => (dg_tup rfl (dgs_cons (dg_name (i := 5) sc_law.nd rfl (by first | exact Or.inl rfl | exact Or.inr rfl)) (dgs_cons (dg_name (i := 7) sc_law.nd rfl (by first | exact Or.inl rfl | exact Or.inr rfl)) dgs_nil)))) (fun _ _ _ _ _ => dts_nil) (fun _ _ _ _ _ => (de_cmp (op_eqS hr.units) eqD_ok (de_callB (call_reprX t.sysm hr.g hr.u200) reprXD_ok (da_cons (de_var (pv 7)) da_nil) t.z_repr) (de_callB (call_reprX t.sysm hr.g hr.u200) reprXD_ok (da_cons (de_var (pv 3)) da_nil) t.z_repr)))) da_nil) t.z_all))) (dss_one (ds_ret de_bl)) dss_nil)
    (dss_cons (ds_for (passes_of rfl) rfl (di_seq (de_bin op_addA addD_ok (de_var (pv 2)) (de_lc (own := [("error", 5), ("kept", 7)]) rfl sc_law.nd (di_seq (de_var (pv 4))) (blkOk_by (by kernel_rfl)) (fun _ _ _ _ _ => (dg_tup rfl (dgs_cons (dg_name (i := 5) sc_law.nd rfl (by first | exact Or.inl rfl | exact Or.inr rfl)) (dgs_cons (dg_name (i := 7) sc_law.nd rfl (by first | exact Or.inl rfl | exact Or.inr rfl)) dgs_nil)))) (fun _ _ _ _ _ => dts_nil) (fun _ _ _ _ _ => (de_var (pv 5)))))) (dg_name (i := 5) sc_law.nd rfl (by first | exact Or.inl rfl | exact Or.inr rfl)) (dss_cons (ds_set (i := 6) sc_law.nd rfl (by first | exact Or.inl rfl | exact Or.inr rfl) (de_call tk h_l_kinds (hr.mono (by omega)) t.l_kinds.m t.l_kinds.F.kp t.l_kinds.b (da_cons (de_var (pv 5)) da_nil)))
    (dss_one (ds_if (DW.dt (dw_or (dt_cmp (op_neS hr.units) neD_ok (de_mt PySem.F.plainAttrs_list PySem.F.slot_list_count PySem.F.type_list_count mt_countB countBD_ok (de_var (pv 6)) (da_cons de_bl da_nil)) de_int) (dw_or (dt_not (dt_tru (de_callB call_isX isXD_ok (da_cons (de_var (pv 5)) (da_cons (de_cls t.k_ViewError) da_nil)) t.z_isinstance))) (dw_or1 (dt_not (dt_tru (de_callB call_isX isXD_ok (da_cons (de_var (pv 5)) (da_cons (de_ty "ValueError" t.z_ValueError) da_nil)) t.z_isinstance))))))) (dss_one (ds_ret de_bl)) dss_nil))))
    (dss_one (ds_ret (de_not (de_callB (cr_any rfl) anyD_ok (da_cons (de_lst (da_cons (de_cmp (op_inA hr.units1 (hu_of hr)) inD_ok de_bl (de_call tk h_l_kinds (hr.mono (by omega)) t.l_kinds.m t.l_kinds.F.kp t.l_kinds.b (da_cons (de_errB exb_ValueError t.z_ValueError boot_ValueError (da_cons de_str da_nil)) da_nil))) (da_cons (de_callB call_isX isXD_ok (da_cons (de_errB exb_ValueError t.z_ValueError boot_ValueError (da_cons de_str da_nil)) (da_cons (de_cls t.k_ViewError) da_nil)) t.z_isinstance) da_nil))) da_nil) t.z_any)))))))))))
end
/-! the defs, one upon the other -/
def G_l_hand : FS := fnD 3 B_l_hand
theorem ok_l_hand {P : Program} {w : World} {K : PySem.W.Frag} {mg : Str → Option Value} {cl : Str → Addr} {cd : Nat → Addr} {base : Heap} {T : List (Addr × Str)} (t : Txt P K mg cl cd base) : FnG P w K mg base (L2.CX P w) 1 t.l_hand.f t.l_hand.fd ["script"] (spD K T 1 G_l_hand) := body_l_hand t
def G_l_draw : FS := fnD 5 B_l_draw
theorem ok_l_draw {P : Program} {w : World} {K : PySem.W.Frag} {mg : Str → Option Value} {cl : Str → Addr} {cd : Nat → Addr} {base : Heap} {T : List (Addr × Str)} (t : Txt P K mg cl cd base) : FnG P w K mg base (L2.CX P w) 1 t.l_draw.f t.l_draw.fd ["hand", "many"] (spD K T 2 G_l_draw) := body_l_draw t
def G_l_kinds (K : PySem.W.Frag) (cl : Str → Addr) : FS := fnD 2 (B_l_kinds K cl)
theorem ok_l_kinds {P : Program} {w : World} {K : PySem.W.Frag} {mg : Str → Option Value} {cl : Str → Addr} {cd : Nat → Addr} {base : Heap} {T : List (Addr × Str)} (t : Txt P K mg cl cd base) : FnG P w K mg base (L2.CX P w) 1 t.l_kinds.f t.l_kinds.fd ["one"] (spD K T 1 (G_l_kinds K cl)) := body_l_kinds t
def G_l_plain (cl : Str → Addr) : FS := fnD 2 (B_l_plain cl)
theorem ok_l_plain {P : Program} {w : World} {K : PySem.W.Frag} {mg : Str → Option Value} {cl : Str → Addr} {cd : Nat → Addr} {base : Heap} {T : List (Addr × Str)} (t : Txt P K mg cl cd base) : FnG P w K mg base (L2.CX P w) 1 t.l_plain.f t.l_plain.fd ["hand"] (spD K T 1 (G_l_plain cl)) := body_l_plain t
def G_l_some : FS := fnD 2 (B_l_some G_l_draw)
theorem ok_l_some {P : Program} {w : World} {K : PySem.W.Frag} {mg : Str → Option Value} {cl : Str → Addr} {cd : Nat → Addr} {base : Heap} {T : List (Addr × Str)} (t : Txt P K mg cl cd base) : FnG P w K mg base (L2.CX P w) 2 t.l_some.f t.l_some.fd ["hand", "things"] (spD K T 2 G_l_some) := body_l_some t (ok_l_draw t)
def G_l_filled (K : PySem.W.Frag) (cl : Str → Addr) : FS := fnD 4 (B_l_filled K cl)
theorem ok_l_filled {P : Program} {w : World} {K : PySem.W.Frag} {mg : Str → Option Value} {cl : Str → Addr} {cd : Nat → Addr} {base : Heap} {T : List (Addr × Str)} (t : Txt P K mg cl cd base) : FnG P w K mg base (L2.CX P w) 2 t.l_filled.f t.l_filled.fd ["thing"] (spD K T 1 (G_l_filled K cl)) := body_l_filled t
def G_l_thing : FS := fnD 2 (B_l_thing G_l_some)
theorem ok_l_thing {P : Program} {w : World} {K : PySem.W.Frag} {mg : Str → Option Value} {cl : Str → Addr} {cd : Nat → Addr} {base : Heap} {T : List (Addr × Str)} (t : Txt P K mg cl cd base) : FnG P w K mg base (L2.CX P w) 3 t.l_thing.f t.l_thing.fd ["hand"] (spD K T 1 G_l_thing) := body_l_thing t (ok_l_some t)
def G_law (K : PySem.W.Frag) (cl : Str → Addr) : FS := fnD 8 (B_law K cl G_l_hand (G_l_plain cl) G_l_thing (G_l_filled K cl) (G_l_kinds K cl))
theorem ok_law {P : Program} {w : World} {K : PySem.W.Frag} {mg : Str → Option Value} {cl : Str → Addr} {cd : Nat → Addr} {base : Heap} {T : List (Addr × Str)} (t : Txt P K mg cl cd base) : FnG P w K mg base (L2.CX P w) 4 t.law.f t.law.fd ["script"] (spD K T 1 (G_law K cl)) := body_law t (ok_l_hand t) (ok_l_plain t) (ok_l_thing t) (ok_l_filled t) (ok_l_kinds t)
end
end K00


namespace K00
open PySem PySem.Spec L2 DL
open PyProof.Rows hiding St pairD intD cutD
abbrev k0 : List Str := [("BadDeed" : Str), ("BadDisk" : Str), ("BadKept" : Str), ("BadStore" : Str)]
abbrev k1 : List Str := [("BadText" : Str)]
abbrev k2 : List Str := [("Barred" : Str), ("Down" : Str), ("Full" : Str), ("Here" : Str)]
abbrev k3 : List Str := [("NoArea" : Str), ("NoBook" : Str), ("NoClosed" : Str)]
abbrev k4 : List Str := [("NoDeed" : Str), ("NoEdit" : Str), ("NoFact" : Str)]
abbrev k5 : List Str := [("NoFacts" : Str), ("NoLetter" : Str), ("NoLife" : Str)]
abbrev k6 : List Str := [("NoLot" : Str), ("NoMark" : Str), ("NoName" : Str)]
abbrev k7 : List Str := [("NoNumber" : Str), ("NoPattern" : Str), ("NoPlan" : Str)]
abbrev k8 : List Str := [("NoPrime" : Str), ("NoRoot" : Str), ("NoRow" : Str)]
abbrev k9 : List Str := [("NoRows" : Str), ("NoRule" : Str), ("NoSchema" : Str)]
abbrev k10 : List Str := [("NoShowing" : Str), ("NoStore" : Str), ("NoStretch" : Str)]
abbrev k11 : List Str := [("NoTables" : Str), ("NoText" : Str), ("NoView" : Str)]
abbrev k12 : List Str := [("NotHere" : Str), ("NotYet" : Str), ("OtherPrime" : Str)]
abbrev k13 : List Str := [("OtherSchema" : Str), ("TooMany" : Str), ("TooSmall" : Str)]
abbrev k14 : List Str := [("Unsafe" : Str)]
abbrev p0 : List Str := [("BadDeed" : Str), ("Down" : Str), ("Here" : Str), ("NoArea" : Str), ("NoBook" : Str), ("NoClosed" : Str), ("NoDeed" : Str), ("NoEdit" : Str), ("NoFact" : Str), ("NoFacts" : Str)]
abbrev p1 : List Str := [("NoLetter" : Str)]
abbrev p2 : List Str := [("NoLife" : Str), ("NoLot" : Str), ("NoMark" : Str), ("NoName" : Str), ("NoNumber" : Str), ("NoPattern" : Str), ("NoPlan" : Str), ("NoPrime" : Str), ("NoRoot" : Str)]
abbrev p3 : List Str := [("NoRow" : Str), ("NoRows" : Str), ("NoRule" : Str), ("NoSchema" : Str), ("NoShowing" : Str), ("NoStore" : Str), ("NoStretch" : Str), ("NoTables" : Str)]
abbrev p4 : List Str := [("NoText" : Str), ("NoView" : Str), ("NotHere" : Str), ("OtherPrime" : Str), ("OtherSchema" : Str), ("TooSmall" : Str), ("Unsafe" : Str)]
/-- the classes, as the law asks for them -/
def ks : List Str := k0 ++ k1 ++ k2 ++ k3 ++ k4 ++ k5 ++ k6 ++ k7 ++ k8 ++ k9 ++ k10 ++ k11 ++ k12 ++ k13 ++ k14
/-- the classes without fields -/
def pk : List Str := p0 ++ p1 ++ p2 ++ p3 ++ p4
def qs (q : Str → Bool) : List Str → List D := fun l => l.map fun j => D.bl (q j)
def es (cl : Str → Addr) : List Str → List D := fun l => l.map fun j => D.err (.ref (cl j)) [] []
theorem add_lst {m : List DL.C} {a c : List D} (h : a.length + c.length ≤ 100000) : addD (.lst a) (.lst c) m = .ok (.lst (a ++ c)) m := by
  show (if fits (a.length + c.length) then R.ok (D.lst (a ++ c)) m else .no) = _
  rw [if_pos (fits_small h)]
section
variable {K : PySem.W.Frag} {cl : Str → Addr} {e : D} {m : List DL.C} {ρ : DL.Env} {q : Str → Bool} {d : D}
theorem add_qs {a b : List Str} (h : a.length + b.length ≤ 100) : addD (.lst (qs q a)) (.lst (qs q b)) m = .ok (.lst (qs q (a ++ b))) m := by
  rw [add_lst (by unfold qs; rw [List.length_map, List.length_map]; omega)]
  unfold qs
  rw [List.map_append]
theorem add_es {a b : List Str} (h : a.length + b.length ≤ 100) : addD (.lst (es cl a)) (.lst (es cl b)) m = .ok (.lst (es cl (a ++ b))) m := by
  rw [add_lst (by unfold es; rw [List.length_map, List.length_map]; omega)]
  unfold es
  rw [List.map_append]
theorem err0_ev {c : Value} : eErr c [] aNil ρ m = .ok (.err c [] []) m := rfl
theorem kinds_ev (h : ∀ j ∈ ks, ∀ m, isXD K [e, .ref (cl j)] m = .ok (.bl (q j)) m) : G_l_kinds K cl [e] m = .ok (.lst (qs q ks)) m := by
  have l0 : eLst (aCons (eAr (isXD K) (aCons (eVar 0) (aCons (eC (.ref (cl "BadDeed"))) aNil))) ( aCons (eAr (isXD K) (aCons (eVar 0) (aCons (eC (.ref (cl "BadDisk"))) aNil))) ( aCons (eAr (isXD K) (aCons (eVar 0) (aCons (eC (.ref (cl "BadKept"))) aNil))) ( aCons (eAr (isXD K) (aCons (eVar 0) (aCons (eC (.ref (cl "BadStore"))) aNil))) (aNil))))) [some e, none] m = .ok (.lst (qs q k0)) m := ev_lst (ev_cons (ev_ar2 rfl rfl (h "BadDeed" (by decide) _)) (ev_cons (ev_ar2 rfl rfl (h "BadDisk" (by decide) _)) (ev_cons (ev_ar2 rfl rfl (h "BadKept" (by decide) _)) (ev_cons (ev_ar2 rfl rfl (h "BadStore" (by decide) _)) (ev_nil))))) (show 4 ≤ 100000 by decide)
  have l1 : eLst (aCons (eAr (isXD K) (aCons (eVar 0) (aCons (eC (.ref (cl "BadText"))) aNil))) (aNil)) [some e, some (.lst (qs q (k0)))] m = .ok (.lst (qs q k1)) m := ev_lst (ev_cons (ev_ar2 rfl rfl (h "BadText" (by decide) _)) (ev_nil)) (show 1 ≤ 100000 by decide)
  have s1 : sSet 1 (eBin addD (eVar 1) (eLst (aCons (eAr (isXD K) (aCons (eVar 0) (aCons (eC (.ref (cl "BadText"))) aNil))) (aNil)))) [some e, some (.lst (qs q (k0)))] m = .nx [some e, some (.lst (qs q (k0 ++ k1)))] m := sv_set (ev_bin rfl l1 (add_qs (by decide)))
  have l2 : eLst (aCons (eAr (isXD K) (aCons (eVar 0) (aCons (eC (.ref (cl "Barred"))) aNil))) ( aCons (eAr (isXD K) (aCons (eVar 0) (aCons (eC (.ref (cl "Down"))) aNil))) ( aCons (eAr (isXD K) (aCons (eVar 0) (aCons (eC (.ref (cl "Full"))) aNil))) ( aCons (eAr (isXD K) (aCons (eVar 0) (aCons (eC (.ref (cl "Here"))) aNil))) (aNil))))) [some e, some (.lst (qs q (k0 ++ k1)))] m = .ok (.lst (qs q k2)) m := ev_lst (ev_cons (ev_ar2 rfl rfl (h "Barred" (by decide) _)) (ev_cons (ev_ar2 rfl rfl (h "Down" (by decide) _)) (ev_cons (ev_ar2 rfl rfl (h "Full" (by decide) _)) (ev_cons (ev_ar2 rfl rfl (h "Here" (by decide) _)) (ev_nil))))) (show 4 ≤ 100000 by decide)
  have s2 : sSet 1 (eBin addD (eVar 1) (eLst (aCons (eAr (isXD K) (aCons (eVar 0) (aCons (eC (.ref (cl "Barred"))) aNil))) ( aCons (eAr (isXD K) (aCons (eVar 0) (aCons (eC (.ref (cl "Down"))) aNil))) ( aCons (eAr (isXD K) (aCons (eVar 0) (aCons (eC (.ref (cl "Full"))) aNil))) ( aCons (eAr (isXD K) (aCons (eVar 0) (aCons (eC (.ref (cl "Here"))) aNil))) (aNil))))))) [some e, some (.lst (qs q (k0 ++ k1)))] m = .nx [some e, some (.lst (qs q (k0 ++ k1 ++ k2)))] m := sv_set (ev_bin rfl l2 (add_qs (by decide)))
  have l3 : eLst (aCons (eAr (isXD K) (aCons (eVar 0) (aCons (eC (.ref (cl "NoArea"))) aNil))) ( aCons (eAr (isXD K) (aCons (eVar 0) (aCons (eC (.ref (cl "NoBook"))) aNil))) ( aCons (eAr (isXD K) (aCons (eVar 0) (aCons (eC (.ref (cl "NoClosed"))) aNil))) (aNil)))) [some e, some (.lst (qs q (k0 ++ k1 ++ k2)))] m = .ok (.lst (qs q k3)) m := ev_lst (ev_cons (ev_ar2 rfl rfl (h "NoArea" (by decide) _)) (ev_cons (ev_ar2 rfl rfl (h "NoBook" (by decide) _)) (ev_cons (ev_ar2 rfl rfl (h "NoClosed" (by decide) _)) (ev_nil)))) (show 3 ≤ 100000 by decide)
  have s3 : sSet 1 (eBin addD (eVar 1) (eLst (aCons (eAr (isXD K) (aCons (eVar 0) (aCons (eC (.ref (cl "NoArea"))) aNil))) ( aCons (eAr (isXD K) (aCons (eVar 0) (aCons (eC (.ref (cl "NoBook"))) aNil))) ( aCons (eAr (isXD K) (aCons (eVar 0) (aCons (eC (.ref (cl "NoClosed"))) aNil))) (aNil)))))) [some e, some (.lst (qs q (k0 ++ k1 ++ k2)))] m = .nx [some e, some (.lst (qs q (k0 ++ k1 ++ k2 ++ k3)))] m := sv_set (ev_bin rfl l3 (add_qs (by decide)))
  have l4 : eLst (aCons (eAr (isXD K) (aCons (eVar 0) (aCons (eC (.ref (cl "NoDeed"))) aNil))) ( aCons (eAr (isXD K) (aCons (eVar 0) (aCons (eC (.ref (cl "NoEdit"))) aNil))) ( aCons (eAr (isXD K) (aCons (eVar 0) (aCons (eC (.ref (cl "NoFact"))) aNil))) (aNil)))) [some e, some (.lst (qs q (k0 ++ k1 ++ k2 ++ k3)))] m = .ok (.lst (qs q k4)) m := ev_lst (ev_cons (ev_ar2 rfl rfl (h "NoDeed" (by decide) _)) (ev_cons (ev_ar2 rfl rfl (h "NoEdit" (by decide) _)) (ev_cons (ev_ar2 rfl rfl (h "NoFact" (by decide) _)) (ev_nil)))) (show 3 ≤ 100000 by decide)
  have s4 : sSet 1 (eBin addD (eVar 1) (eLst (aCons (eAr (isXD K) (aCons (eVar 0) (aCons (eC (.ref (cl "NoDeed"))) aNil))) ( aCons (eAr (isXD K) (aCons (eVar 0) (aCons (eC (.ref (cl "NoEdit"))) aNil))) ( aCons (eAr (isXD K) (aCons (eVar 0) (aCons (eC (.ref (cl "NoFact"))) aNil))) (aNil)))))) [some e, some (.lst (qs q (k0 ++ k1 ++ k2 ++ k3)))] m = .nx [some e, some (.lst (qs q (k0 ++ k1 ++ k2 ++ k3 ++ k4)))] m := sv_set (ev_bin rfl l4 (add_qs (by decide)))
  have l5 : eLst (aCons (eAr (isXD K) (aCons (eVar 0) (aCons (eC (.ref (cl "NoFacts"))) aNil))) ( aCons (eAr (isXD K) (aCons (eVar 0) (aCons (eC (.ref (cl "NoLetter"))) aNil))) ( aCons (eAr (isXD K) (aCons (eVar 0) (aCons (eC (.ref (cl "NoLife"))) aNil))) (aNil)))) [some e, some (.lst (qs q (k0 ++ k1 ++ k2 ++ k3 ++ k4)))] m = .ok (.lst (qs q k5)) m := ev_lst (ev_cons (ev_ar2 rfl rfl (h "NoFacts" (by decide) _)) (ev_cons (ev_ar2 rfl rfl (h "NoLetter" (by decide) _)) (ev_cons (ev_ar2 rfl rfl (h "NoLife" (by decide) _)) (ev_nil)))) (show 3 ≤ 100000 by decide)
  have s5 : sSet 1 (eBin addD (eVar 1) (eLst (aCons (eAr (isXD K) (aCons (eVar 0) (aCons (eC (.ref (cl "NoFacts"))) aNil))) ( aCons (eAr (isXD K) (aCons (eVar 0) (aCons (eC (.ref (cl "NoLetter"))) aNil))) ( aCons (eAr (isXD K) (aCons (eVar 0) (aCons (eC (.ref (cl "NoLife"))) aNil))) (aNil)))))) [some e, some (.lst (qs q (k0 ++ k1 ++ k2 ++ k3 ++ k4)))] m = .nx [some e, some (.lst (qs q (k0 ++ k1 ++ k2 ++ k3 ++ k4 ++ k5)))] m := sv_set (ev_bin rfl l5 (add_qs (by decide)))
  have l6 : eLst (aCons (eAr (isXD K) (aCons (eVar 0) (aCons (eC (.ref (cl "NoLot"))) aNil))) ( aCons (eAr (isXD K) (aCons (eVar 0) (aCons (eC (.ref (cl "NoMark"))) aNil))) ( aCons (eAr (isXD K) (aCons (eVar 0) (aCons (eC (.ref (cl "NoName"))) aNil))) (aNil)))) [some e, some (.lst (qs q (k0 ++ k1 ++ k2 ++ k3 ++ k4 ++ k5)))] m = .ok (.lst (qs q k6)) m := ev_lst (ev_cons (ev_ar2 rfl rfl (h "NoLot" (by decide) _)) (ev_cons (ev_ar2 rfl rfl (h "NoMark" (by decide) _)) (ev_cons (ev_ar2 rfl rfl (h "NoName" (by decide) _)) (ev_nil)))) (show 3 ≤ 100000 by decide)
  have s6 : sSet 1 (eBin addD (eVar 1) (eLst (aCons (eAr (isXD K) (aCons (eVar 0) (aCons (eC (.ref (cl "NoLot"))) aNil))) ( aCons (eAr (isXD K) (aCons (eVar 0) (aCons (eC (.ref (cl "NoMark"))) aNil))) ( aCons (eAr (isXD K) (aCons (eVar 0) (aCons (eC (.ref (cl "NoName"))) aNil))) (aNil)))))) [some e, some (.lst (qs q (k0 ++ k1 ++ k2 ++ k3 ++ k4 ++ k5)))] m = .nx [some e, some (.lst (qs q (k0 ++ k1 ++ k2 ++ k3 ++ k4 ++ k5 ++ k6)))] m := sv_set (ev_bin rfl l6 (add_qs (by decide)))
  have l7 : eLst (aCons (eAr (isXD K) (aCons (eVar 0) (aCons (eC (.ref (cl "NoNumber"))) aNil))) ( aCons (eAr (isXD K) (aCons (eVar 0) (aCons (eC (.ref (cl "NoPattern"))) aNil))) ( aCons (eAr (isXD K) (aCons (eVar 0) (aCons (eC (.ref (cl "NoPlan"))) aNil))) (aNil)))) [some e, some (.lst (qs q (k0 ++ k1 ++ k2 ++ k3 ++ k4 ++ k5 ++ k6)))] m = .ok (.lst (qs q k7)) m := ev_lst (ev_cons (ev_ar2 rfl rfl (h "NoNumber" (by decide) _)) (ev_cons (ev_ar2 rfl rfl (h "NoPattern" (by decide) _)) (ev_cons (ev_ar2 rfl rfl (h "NoPlan" (by decide) _)) (ev_nil)))) (show 3 ≤ 100000 by decide)
  have s7 : sSet 1 (eBin addD (eVar 1) (eLst (aCons (eAr (isXD K) (aCons (eVar 0) (aCons (eC (.ref (cl "NoNumber"))) aNil))) ( aCons (eAr (isXD K) (aCons (eVar 0) (aCons (eC (.ref (cl "NoPattern"))) aNil))) ( aCons (eAr (isXD K) (aCons (eVar 0) (aCons (eC (.ref (cl "NoPlan"))) aNil))) (aNil)))))) [some e, some (.lst (qs q (k0 ++ k1 ++ k2 ++ k3 ++ k4 ++ k5 ++ k6)))] m = .nx [some e, some (.lst (qs q (k0 ++ k1 ++ k2 ++ k3 ++ k4 ++ k5 ++ k6 ++ k7)))] m := sv_set (ev_bin rfl l7 (add_qs (by decide)))
  have l8 : eLst (aCons (eAr (isXD K) (aCons (eVar 0) (aCons (eC (.ref (cl "NoPrime"))) aNil))) ( aCons (eAr (isXD K) (aCons (eVar 0) (aCons (eC (.ref (cl "NoRoot"))) aNil))) ( aCons (eAr (isXD K) (aCons (eVar 0) (aCons (eC (.ref (cl "NoRow"))) aNil))) (aNil)))) [some e, some (.lst (qs q (k0 ++ k1 ++ k2 ++ k3 ++ k4 ++ k5 ++ k6 ++ k7)))] m = .ok (.lst (qs q k8)) m := ev_lst (ev_cons (ev_ar2 rfl rfl (h "NoPrime" (by decide) _)) (ev_cons (ev_ar2 rfl rfl (h "NoRoot" (by decide) _)) (ev_cons (ev_ar2 rfl rfl (h "NoRow" (by decide) _)) (ev_nil)))) (show 3 ≤ 100000 by decide)
  have s8 : sSet 1 (eBin addD (eVar 1) (eLst (aCons (eAr (isXD K) (aCons (eVar 0) (aCons (eC (.ref (cl "NoPrime"))) aNil))) ( aCons (eAr (isXD K) (aCons (eVar 0) (aCons (eC (.ref (cl "NoRoot"))) aNil))) ( aCons (eAr (isXD K) (aCons (eVar 0) (aCons (eC (.ref (cl "NoRow"))) aNil))) (aNil)))))) [some e, some (.lst (qs q (k0 ++ k1 ++ k2 ++ k3 ++ k4 ++ k5 ++ k6 ++ k7)))] m = .nx [some e, some (.lst (qs q (k0 ++ k1 ++ k2 ++ k3 ++ k4 ++ k5 ++ k6 ++ k7 ++ k8)))] m := sv_set (ev_bin rfl l8 (add_qs (by decide)))
  have l9 : eLst (aCons (eAr (isXD K) (aCons (eVar 0) (aCons (eC (.ref (cl "NoRows"))) aNil))) ( aCons (eAr (isXD K) (aCons (eVar 0) (aCons (eC (.ref (cl "NoRule"))) aNil))) ( aCons (eAr (isXD K) (aCons (eVar 0) (aCons (eC (.ref (cl "NoSchema"))) aNil))) (aNil)))) [some e, some (.lst (qs q (k0 ++ k1 ++ k2 ++ k3 ++ k4 ++ k5 ++ k6 ++ k7 ++ k8)))] m = .ok (.lst (qs q k9)) m := ev_lst (ev_cons (ev_ar2 rfl rfl (h "NoRows" (by decide) _)) (ev_cons (ev_ar2 rfl rfl (h "NoRule" (by decide) _)) (ev_cons (ev_ar2 rfl rfl (h "NoSchema" (by decide) _)) (ev_nil)))) (show 3 ≤ 100000 by decide)
  have s9 : sSet 1 (eBin addD (eVar 1) (eLst (aCons (eAr (isXD K) (aCons (eVar 0) (aCons (eC (.ref (cl "NoRows"))) aNil))) ( aCons (eAr (isXD K) (aCons (eVar 0) (aCons (eC (.ref (cl "NoRule"))) aNil))) ( aCons (eAr (isXD K) (aCons (eVar 0) (aCons (eC (.ref (cl "NoSchema"))) aNil))) (aNil)))))) [some e, some (.lst (qs q (k0 ++ k1 ++ k2 ++ k3 ++ k4 ++ k5 ++ k6 ++ k7 ++ k8)))] m = .nx [some e, some (.lst (qs q (k0 ++ k1 ++ k2 ++ k3 ++ k4 ++ k5 ++ k6 ++ k7 ++ k8 ++ k9)))] m := sv_set (ev_bin rfl l9 (add_qs (by decide)))
  have l10 : eLst (aCons (eAr (isXD K) (aCons (eVar 0) (aCons (eC (.ref (cl "NoShowing"))) aNil))) ( aCons (eAr (isXD K) (aCons (eVar 0) (aCons (eC (.ref (cl "NoStore"))) aNil))) ( aCons (eAr (isXD K) (aCons (eVar 0) (aCons (eC (.ref (cl "NoStretch"))) aNil))) (aNil)))) [some e, some (.lst (qs q (k0 ++ k1 ++ k2 ++ k3 ++ k4 ++ k5 ++ k6 ++ k7 ++ k8 ++ k9)))] m = .ok (.lst (qs q k10)) m := ev_lst (ev_cons (ev_ar2 rfl rfl (h "NoShowing" (by decide) _)) (ev_cons (ev_ar2 rfl rfl (h "NoStore" (by decide) _)) (ev_cons (ev_ar2 rfl rfl (h "NoStretch" (by decide) _)) (ev_nil)))) (show 3 ≤ 100000 by decide)
  have s10 : sSet 1 (eBin addD (eVar 1) (eLst (aCons (eAr (isXD K) (aCons (eVar 0) (aCons (eC (.ref (cl "NoShowing"))) aNil))) ( aCons (eAr (isXD K) (aCons (eVar 0) (aCons (eC (.ref (cl "NoStore"))) aNil))) ( aCons (eAr (isXD K) (aCons (eVar 0) (aCons (eC (.ref (cl "NoStretch"))) aNil))) (aNil)))))) [some e, some (.lst (qs q (k0 ++ k1 ++ k2 ++ k3 ++ k4 ++ k5 ++ k6 ++ k7 ++ k8 ++ k9)))] m = .nx [some e, some (.lst (qs q (k0 ++ k1 ++ k2 ++ k3 ++ k4 ++ k5 ++ k6 ++ k7 ++ k8 ++ k9 ++ k10)))] m := sv_set (ev_bin rfl l10 (add_qs (by decide)))
  have l11 : eLst (aCons (eAr (isXD K) (aCons (eVar 0) (aCons (eC (.ref (cl "NoTables"))) aNil))) ( aCons (eAr (isXD K) (aCons (eVar 0) (aCons (eC (.ref (cl "NoText"))) aNil))) ( aCons (eAr (isXD K) (aCons (eVar 0) (aCons (eC (.ref (cl "NoView"))) aNil))) (aNil)))) [some e, some (.lst (qs q (k0 ++ k1 ++ k2 ++ k3 ++ k4 ++ k5 ++ k6 ++ k7 ++ k8 ++ k9 ++ k10)))] m = .ok (.lst (qs q k11)) m := ev_lst (ev_cons (ev_ar2 rfl rfl (h "NoTables" (by decide) _)) (ev_cons (ev_ar2 rfl rfl (h "NoText" (by decide) _)) (ev_cons (ev_ar2 rfl rfl (h "NoView" (by decide) _)) (ev_nil)))) (show 3 ≤ 100000 by decide)
  have s11 : sSet 1 (eBin addD (eVar 1) (eLst (aCons (eAr (isXD K) (aCons (eVar 0) (aCons (eC (.ref (cl "NoTables"))) aNil))) ( aCons (eAr (isXD K) (aCons (eVar 0) (aCons (eC (.ref (cl "NoText"))) aNil))) ( aCons (eAr (isXD K) (aCons (eVar 0) (aCons (eC (.ref (cl "NoView"))) aNil))) (aNil)))))) [some e, some (.lst (qs q (k0 ++ k1 ++ k2 ++ k3 ++ k4 ++ k5 ++ k6 ++ k7 ++ k8 ++ k9 ++ k10)))] m = .nx [some e, some (.lst (qs q (k0 ++ k1 ++ k2 ++ k3 ++ k4 ++ k5 ++ k6 ++ k7 ++ k8 ++ k9 ++ k10 ++ k11)))] m := sv_set (ev_bin rfl l11 (add_qs (by decide)))
  have l12 : eLst (aCons (eAr (isXD K) (aCons (eVar 0) (aCons (eC (.ref (cl "NotHere"))) aNil))) ( aCons (eAr (isXD K) (aCons (eVar 0) (aCons (eC (.ref (cl "NotYet"))) aNil))) ( aCons (eAr (isXD K) (aCons (eVar 0) (aCons (eC (.ref (cl "OtherPrime"))) aNil))) (aNil)))) [some e, some (.lst (qs q (k0 ++ k1 ++ k2 ++ k3 ++ k4 ++ k5 ++ k6 ++ k7 ++ k8 ++ k9 ++ k10 ++ k11)))] m = .ok (.lst (qs q k12)) m := ev_lst (ev_cons (ev_ar2 rfl rfl (h "NotHere" (by decide) _)) (ev_cons (ev_ar2 rfl rfl (h "NotYet" (by decide) _)) (ev_cons (ev_ar2 rfl rfl (h "OtherPrime" (by decide) _)) (ev_nil)))) (show 3 ≤ 100000 by decide)
  have s12 : sSet 1 (eBin addD (eVar 1) (eLst (aCons (eAr (isXD K) (aCons (eVar 0) (aCons (eC (.ref (cl "NotHere"))) aNil))) ( aCons (eAr (isXD K) (aCons (eVar 0) (aCons (eC (.ref (cl "NotYet"))) aNil))) ( aCons (eAr (isXD K) (aCons (eVar 0) (aCons (eC (.ref (cl "OtherPrime"))) aNil))) (aNil)))))) [some e, some (.lst (qs q (k0 ++ k1 ++ k2 ++ k3 ++ k4 ++ k5 ++ k6 ++ k7 ++ k8 ++ k9 ++ k10 ++ k11)))] m = .nx [some e, some (.lst (qs q (k0 ++ k1 ++ k2 ++ k3 ++ k4 ++ k5 ++ k6 ++ k7 ++ k8 ++ k9 ++ k10 ++ k11 ++ k12)))] m := sv_set (ev_bin rfl l12 (add_qs (by decide)))
  have l13 : eLst (aCons (eAr (isXD K) (aCons (eVar 0) (aCons (eC (.ref (cl "OtherSchema"))) aNil))) ( aCons (eAr (isXD K) (aCons (eVar 0) (aCons (eC (.ref (cl "TooMany"))) aNil))) ( aCons (eAr (isXD K) (aCons (eVar 0) (aCons (eC (.ref (cl "TooSmall"))) aNil))) (aNil)))) [some e, some (.lst (qs q (k0 ++ k1 ++ k2 ++ k3 ++ k4 ++ k5 ++ k6 ++ k7 ++ k8 ++ k9 ++ k10 ++ k11 ++ k12)))] m = .ok (.lst (qs q k13)) m := ev_lst (ev_cons (ev_ar2 rfl rfl (h "OtherSchema" (by decide) _)) (ev_cons (ev_ar2 rfl rfl (h "TooMany" (by decide) _)) (ev_cons (ev_ar2 rfl rfl (h "TooSmall" (by decide) _)) (ev_nil)))) (show 3 ≤ 100000 by decide)
  have s13 : sSet 1 (eBin addD (eVar 1) (eLst (aCons (eAr (isXD K) (aCons (eVar 0) (aCons (eC (.ref (cl "OtherSchema"))) aNil))) ( aCons (eAr (isXD K) (aCons (eVar 0) (aCons (eC (.ref (cl "TooMany"))) aNil))) ( aCons (eAr (isXD K) (aCons (eVar 0) (aCons (eC (.ref (cl "TooSmall"))) aNil))) (aNil)))))) [some e, some (.lst (qs q (k0 ++ k1 ++ k2 ++ k3 ++ k4 ++ k5 ++ k6 ++ k7 ++ k8 ++ k9 ++ k10 ++ k11 ++ k12)))] m = .nx [some e, some (.lst (qs q (k0 ++ k1 ++ k2 ++ k3 ++ k4 ++ k5 ++ k6 ++ k7 ++ k8 ++ k9 ++ k10 ++ k11 ++ k12 ++ k13)))] m := sv_set (ev_bin rfl l13 (add_qs (by decide)))
  have l14 : eLst (aCons (eAr (isXD K) (aCons (eVar 0) (aCons (eC (.ref (cl "Unsafe"))) aNil))) (aNil)) [some e, some (.lst (qs q (k0 ++ k1 ++ k2 ++ k3 ++ k4 ++ k5 ++ k6 ++ k7 ++ k8 ++ k9 ++ k10 ++ k11 ++ k12 ++ k13)))] m = .ok (.lst (qs q k14)) m := ev_lst (ev_cons (ev_ar2 rfl rfl (h "Unsafe" (by decide) _)) (ev_nil)) (show 1 ≤ 100000 by decide)
  have s14 : sSet 1 (eBin addD (eVar 1) (eLst (aCons (eAr (isXD K) (aCons (eVar 0) (aCons (eC (.ref (cl "Unsafe"))) aNil))) (aNil)))) [some e, some (.lst (qs q (k0 ++ k1 ++ k2 ++ k3 ++ k4 ++ k5 ++ k6 ++ k7 ++ k8 ++ k9 ++ k10 ++ k11 ++ k12 ++ k13)))] m = .nx [some e, some (.lst (qs q (k0 ++ k1 ++ k2 ++ k3 ++ k4 ++ k5 ++ k6 ++ k7 ++ k8 ++ k9 ++ k10 ++ k11 ++ k12 ++ k13 ++ k14)))] m := sv_set (ev_bin rfl l14 (add_qs (by decide)))
  exact fn_rt (sv_seq (sv_set l0) (sv_seq s1 (sv_seq s2 (sv_seq s3 (sv_seq s4 (sv_seq s5 (sv_seq s6 (sv_seq s7 (sv_seq s8 (sv_seq s9 (sv_seq s10 (sv_seq s11 (sv_seq s12 (sv_seq s13 (sv_seq s14 (sv_ret rfl))))))))))))))))
theorem plain_ev : G_l_plain cl [d] m = .ok (.lst (es cl pk)) m := by
  have l0 : eLst (aCons (eErr (.ref (cl "BadDeed")) [] aNil) ( aCons (eErr (.ref (cl "Down")) [] aNil) ( aCons (eErr (.ref (cl "Here")) [] aNil) ( aCons (eErr (.ref (cl "NoArea")) [] aNil) ( aCons (eErr (.ref (cl "NoBook")) [] aNil) ( aCons (eErr (.ref (cl "NoClosed")) [] aNil) ( aCons (eErr (.ref (cl "NoDeed")) [] aNil) ( aCons (eErr (.ref (cl "NoEdit")) [] aNil) ( aCons (eErr (.ref (cl "NoFact")) [] aNil) ( aCons (eErr (.ref (cl "NoFacts")) [] aNil) (aNil))))))))))) [some d, none] m = .ok (.lst (es cl p0)) m := ev_lst (ev_cons err0_ev (ev_cons err0_ev (ev_cons err0_ev (ev_cons err0_ev (ev_cons err0_ev (ev_cons err0_ev (ev_cons err0_ev (ev_cons err0_ev (ev_cons err0_ev (ev_cons err0_ev (ev_nil))))))))))) (show 10 ≤ 100000 by decide)
  have l1 : eLst (aCons (eErr (.ref (cl "NoLetter")) [] aNil) (aNil)) [some d, some (.lst (es cl (p0)))] m = .ok (.lst (es cl p1)) m := ev_lst (ev_cons err0_ev (ev_nil)) (show 1 ≤ 100000 by decide)
  have s1 : sSet 1 (eBin addD (eVar 1) (eLst (aCons (eErr (.ref (cl "NoLetter")) [] aNil) (aNil)))) [some d, some (.lst (es cl (p0)))] m = .nx [some d, some (.lst (es cl (p0 ++ p1)))] m := sv_set (ev_bin rfl l1 (add_es (by decide)))
  have l2 : eLst (aCons (eErr (.ref (cl "NoLife")) [] aNil) ( aCons (eErr (.ref (cl "NoLot")) [] aNil) ( aCons (eErr (.ref (cl "NoMark")) [] aNil) ( aCons (eErr (.ref (cl "NoName")) [] aNil) ( aCons (eErr (.ref (cl "NoNumber")) [] aNil) ( aCons (eErr (.ref (cl "NoPattern")) [] aNil) ( aCons (eErr (.ref (cl "NoPlan")) [] aNil) ( aCons (eErr (.ref (cl "NoPrime")) [] aNil) ( aCons (eErr (.ref (cl "NoRoot")) [] aNil) (aNil)))))))))) [some d, some (.lst (es cl (p0 ++ p1)))] m = .ok (.lst (es cl p2)) m := ev_lst (ev_cons err0_ev (ev_cons err0_ev (ev_cons err0_ev (ev_cons err0_ev (ev_cons err0_ev (ev_cons err0_ev (ev_cons err0_ev (ev_cons err0_ev (ev_cons err0_ev (ev_nil)))))))))) (show 9 ≤ 100000 by decide)
  have s2 : sSet 1 (eBin addD (eVar 1) (eLst (aCons (eErr (.ref (cl "NoLife")) [] aNil) ( aCons (eErr (.ref (cl "NoLot")) [] aNil) ( aCons (eErr (.ref (cl "NoMark")) [] aNil) ( aCons (eErr (.ref (cl "NoName")) [] aNil) ( aCons (eErr (.ref (cl "NoNumber")) [] aNil) ( aCons (eErr (.ref (cl "NoPattern")) [] aNil) ( aCons (eErr (.ref (cl "NoPlan")) [] aNil) ( aCons (eErr (.ref (cl "NoPrime")) [] aNil) ( aCons (eErr (.ref (cl "NoRoot")) [] aNil) (aNil)))))))))))) [some d, some (.lst (es cl (p0 ++ p1)))] m = .nx [some d, some (.lst (es cl (p0 ++ p1 ++ p2)))] m := sv_set (ev_bin rfl l2 (add_es (by decide)))
  have l3 : eLst (aCons (eErr (.ref (cl "NoRow")) [] aNil) ( aCons (eErr (.ref (cl "NoRows")) [] aNil) ( aCons (eErr (.ref (cl "NoRule")) [] aNil) ( aCons (eErr (.ref (cl "NoSchema")) [] aNil) ( aCons (eErr (.ref (cl "NoShowing")) [] aNil) ( aCons (eErr (.ref (cl "NoStore")) [] aNil) ( aCons (eErr (.ref (cl "NoStretch")) [] aNil) ( aCons (eErr (.ref (cl "NoTables")) [] aNil) (aNil))))))))) [some d, some (.lst (es cl (p0 ++ p1 ++ p2)))] m = .ok (.lst (es cl p3)) m := ev_lst (ev_cons err0_ev (ev_cons err0_ev (ev_cons err0_ev (ev_cons err0_ev (ev_cons err0_ev (ev_cons err0_ev (ev_cons err0_ev (ev_cons err0_ev (ev_nil))))))))) (show 8 ≤ 100000 by decide)
  have s3 : sSet 1 (eBin addD (eVar 1) (eLst (aCons (eErr (.ref (cl "NoRow")) [] aNil) ( aCons (eErr (.ref (cl "NoRows")) [] aNil) ( aCons (eErr (.ref (cl "NoRule")) [] aNil) ( aCons (eErr (.ref (cl "NoSchema")) [] aNil) ( aCons (eErr (.ref (cl "NoShowing")) [] aNil) ( aCons (eErr (.ref (cl "NoStore")) [] aNil) ( aCons (eErr (.ref (cl "NoStretch")) [] aNil) ( aCons (eErr (.ref (cl "NoTables")) [] aNil) (aNil))))))))))) [some d, some (.lst (es cl (p0 ++ p1 ++ p2)))] m = .nx [some d, some (.lst (es cl (p0 ++ p1 ++ p2 ++ p3)))] m := sv_set (ev_bin rfl l3 (add_es (by decide)))
  have l4 : eLst (aCons (eErr (.ref (cl "NoText")) [] aNil) ( aCons (eErr (.ref (cl "NoView")) [] aNil) ( aCons (eErr (.ref (cl "NotHere")) [] aNil) ( aCons (eErr (.ref (cl "OtherPrime")) [] aNil) ( aCons (eErr (.ref (cl "OtherSchema")) [] aNil) ( aCons (eErr (.ref (cl "TooSmall")) [] aNil) ( aCons (eErr (.ref (cl "Unsafe")) [] aNil) (aNil)))))))) [some d, some (.lst (es cl (p0 ++ p1 ++ p2 ++ p3)))] m = .ok (.lst (es cl p4)) m := ev_lst (ev_cons err0_ev (ev_cons err0_ev (ev_cons err0_ev (ev_cons err0_ev (ev_cons err0_ev (ev_cons err0_ev (ev_cons err0_ev (ev_nil)))))))) (show 7 ≤ 100000 by decide)
  have s4 : sSet 1 (eBin addD (eVar 1) (eLst (aCons (eErr (.ref (cl "NoText")) [] aNil) ( aCons (eErr (.ref (cl "NoView")) [] aNil) ( aCons (eErr (.ref (cl "NotHere")) [] aNil) ( aCons (eErr (.ref (cl "OtherPrime")) [] aNil) ( aCons (eErr (.ref (cl "OtherSchema")) [] aNil) ( aCons (eErr (.ref (cl "TooSmall")) [] aNil) ( aCons (eErr (.ref (cl "Unsafe")) [] aNil) (aNil)))))))))) [some d, some (.lst (es cl (p0 ++ p1 ++ p2 ++ p3)))] m = .nx [some d, some (.lst (es cl (p0 ++ p1 ++ p2 ++ p3 ++ p4)))] m := sv_set (ev_bin rfl l4 (add_es (by decide)))
  exact fn_rt (sv_seq (sv_set l0) (sv_seq s1 (sv_seq s2 (sv_seq s3 (sv_seq s4 (sv_ret rfl))))))
end
end K00


namespace K00
open PySem PySem.Spec L2 DL
open PyProof.Rows hiding St pairD intD cutD
/-! ### what the top has left of the classes -/
def mroL (v a : Addr) : List Value := [.ref a, .ref v, .type "ValueError", .type "Exception", .type "BaseException", .type "object"]
def clsB (K : PySem.W.Frag) (v a : Addr) : Bool := (match PySem.W.clsIn K a with
  | some cd => decide (cd.mro = mroL v a)
  | none => false) && decide (PySem.W.typeIn K (.ref a) = some (.type "type"))
def excB (K : PySem.W.Frag) (a : Addr) : Bool := decide (PySem.W.findIn K (.ref a) "__getattribute__" = some (some (.builtin "BaseException.__getattribute__"))) && (decide (PySem.W.findIn K (.ref a) "__getattr__" = some none) &&
  (PySem.W.hasDictIn K a && decide (PySem.W.findIn K (.ref a) "__class__" = some (some (.builtin "object.__class__")))))
def viewB (K : PySem.W.Frag) (v : Addr) : Bool := (PySem.W.clsIn K v).isSome && decide (PySem.W.typeIn K (.ref v) = some (.type "type"))
def clearB (v : Addr) : List Addr → Bool
  | [] => true
  | a :: l => decide (a ≠ v) && (l.all (fun b => decide (a ≠ b)) && clearB v l)
/-- the classes with a field -/
abbrev fk : List (Str × Str) := [(("BadDisk" : Str), ("part" : Str)), ("BadKept", "area"), ("BadStore", "index"), ("BadText", "place"), ("Barred", "bar"), ("Full", "area"), ("NotYet", "lacking"), ("TooMany", "most")]
/-- all that the top has left of them, to be looked at at once -/
def topB (K : PySem.W.Frag) (v : Addr) (l : List Addr) (fs : List (Addr × Str)) : Bool := l.all (clsB K v) && (l.all (excB K) && (viewB K v && (clearB v l && fs.all fun p => decide (PySem.W.findIn K (.ref p.1) p.2 = some none))))
structure Facts (K : PySem.W.Frag) (cl : Str → Addr) : Prop where
  top : topB K (cl "ViewError") (ks.map cl) (fk.map fun p => (cl p.1, p.2)) = true
  hn : PySem.W.specialIn K (.builtin "object.__class__") "__get__" = some (some (.builtin "getset_descriptor.__get__"))
  ht : PySem.W.takesIn K (.builtin "object.__class__") = some true
theorem clear_ne {v : Addr} : ∀ {l : List Addr}, clearB v l = true → ∀ a ∈ l, a ≠ v
  | b :: l, h, a, ha => by
    unfold clearB at h
    simp only [Bool.and_eq_true, decide_eq_true_eq] at h
    rcases List.mem_cons.mp ha with rfl | ha
    · exact h.1
    · exact clear_ne h.2.2 a ha
theorem clear_inj {v : Addr} {f : Str → Addr} : ∀ {l : List Str}, clearB v (l.map f) = true → ∀ i ∈ l, ∀ j ∈ l, f i = f j → i = j
  | b :: l, h, i, hi, j, hj, e => by
    have h : (decide (f b ≠ v) && ((l.map f).all (fun c => decide (f b ≠ c)) && clearB v (l.map f))) = true := h
    simp only [Bool.and_eq_true, decide_eq_true_eq, List.all_eq_true, List.mem_map, forall_exists_index, and_imp, forall_apply_eq_imp_iff₂] at h
    rcases List.mem_cons.mp hi with rfl | hi'
    · rcases List.mem_cons.mp hj with rfl | hj
      · rfl
      · exact absurd e (h.2.1 j hj)
    · rcases List.mem_cons.mp hj with rfl | hj
      · exact absurd e.symm (h.2.1 i hi')
      · exact clear_inj h.2.2 i hi' j hj e
section
variable {K : PySem.W.Frag} {cl : Str → Addr} {i j f : Str}
theorem Facts.all (F : Facts K cl) : (∀ i ∈ ks, clsB K (cl "ViewError") (cl i) = true) ∧ (∀ i ∈ ks, excB K (cl i) = true) ∧ viewB K (cl "ViewError") = true ∧ clearB (cl "ViewError") (ks.map cl) = true ∧ ∀ p ∈ fk, PySem.W.findIn K (.ref (cl p.1)) p.2 = some none := by
  have h := F.top
  unfold topB at h
  simp only [Bool.and_eq_true] at h
  obtain ⟨h1, h2, h3, h4, h5⟩ := h
  rw [List.all_eq_true] at h1 h2 h5
  exact ⟨fun i hi => h1 _ (List.mem_map_of_mem hi), fun i hi => h2 _ (List.mem_map_of_mem hi), h3, h4, fun p hp => of_decide_eq_true (h5 _ (List.mem_map_of_mem (f := fun p => (cl p.1, p.2)) hp))⟩
theorem Facts.cls (F : Facts K cl) (hi : i ∈ ks) : ∃ cd, PySem.W.clsIn K (cl i) = some cd ∧ cd.mro = mroL (cl "ViewError") (cl i) ∧ PySem.W.typeIn K (.ref (cl i)) = some (.type "type") := by
  have h := F.all.1 i hi
  unfold clsB at h
  rw [Bool.and_eq_true] at h
  cases e : PySem.W.clsIn K (cl i) with
  | none => rw [e] at h; nomatch h.1
  | some cd =>
    rw [e] at h
    exact ⟨cd, rfl, of_decide_eq_true h.1, of_decide_eq_true h.2⟩
theorem Facts.sub (F : Facts K cl) (hi : i ∈ ks) (b : Value) : PySem.W.subIn K (.ref (cl i)) b = some ((mroL (cl "ViewError") (cl i)).contains b) := by
  obtain ⟨cd, h1, h2, _⟩ := F.cls hi
  show PySem.W.mroIn K (cl i) b = _
  unfold PySem.W.mroIn
  rw [h1]
  show (if cd.mro.isEmpty then none else some (cd.mro.contains b)) = _
  rw [h2]
  rfl
theorem Facts.exc (F : Facts K cl) (hi : i ∈ ks) : ExcC K (cl i) := by
  have h := F.all.2.1 i hi
  unfold excB at h
  simp only [Bool.and_eq_true, decide_eq_true_eq] at h
  obtain ⟨h1, h2, h3, h4⟩ := h
  exact ⟨h1, h2, by rw [F.sub hi]; rfl, h3, h4, F.hn, F.ht, F.sub hi _⟩
theorem Facts.xf (F : Facts K cl) (hi : i ∈ ks) : XfC K (cl i) := ⟨(F.exc hi).hg, (F.exc hi).hk, (F.exc hi).hs, (F.exc hi).hd⟩
theorem Facts.me (F : Facts K cl) (hi : i ∈ ks) (hj : j ∈ ks) : PySem.W.kitOne K (.ref (cl i)) (.ref (cl j)) = some (decide (i = j)) := by
  unfold PySem.W.kitOne
  by_cases e : i = j
  · subst e
    rw [if_pos (beq_self_eq_true _), decide_eq_true rfl]
  · have ne : cl i ≠ cl j := fun z => e (clear_inj F.all.2.2.2.1 i hi j hj z)
    have nv : cl j ≠ cl "ViewError" := clear_ne F.all.2.2.2.1 _ (List.mem_map_of_mem hj)
    rw [if_neg (fun z => ne (Value.ref.inj (eq_of_beq z))), decide_eq_false e]
    obtain ⟨cd, h1, _, h3⟩ := F.cls hj
    show (if ((PySem.W.clsIn K (cl j)).isSome && PySem.W.typeIn K (.ref (cl j)) == some (.type "type")) = true then PySem.W.subIn K (.ref (cl i)) (.ref (cl j)) else none) = _
    rw [if_pos (by rw [h1, h3]; rfl), F.sub hi]
    congr 1
    rw [← Bool.not_eq_true, List.contains_iff_mem]
    unfold mroL
    intro z
    simp only [List.mem_cons, List.not_mem_nil, or_false, Value.ref.injEq, reduceCtorEq, or_false] at z
    rcases z with z | z
    · exact ne z.symm
    · exact nv z
theorem Facts.ve (F : Facts K cl) (hi : i ∈ ks) : PySem.W.kitOne K (.ref (cl i)) (.ref (cl "ViewError")) = some true := by
  have nv : cl i ≠ cl "ViewError" := clear_ne F.all.2.2.2.1 _ (List.mem_map_of_mem hi)
  have h := F.all.2.2.1
  unfold viewB at h
  simp only [Bool.and_eq_true, decide_eq_true_eq] at h
  unfold PySem.W.kitOne
  rw [if_neg (fun z => nv (Value.ref.inj (eq_of_beq z)))]
  show (if ((PySem.W.clsIn K (cl "ViewError")).isSome && PySem.W.typeIn K (.ref (cl "ViewError")) == some (.type "type")) = true then PySem.W.subIn K (.ref (cl i)) (.ref (cl "ViewError")) else none) = _
  rw [if_pos (by rw [h.1, h.2]; rfl), F.sub hi]
  congr 1
  rw [List.contains_iff_mem]
  unfold mroL
  exact List.mem_cons_of_mem _ List.mem_cons_self
theorem Facts.val (F : Facts K cl) (hi : i ∈ ks) : PySem.W.kitOne K (.ref (cl i)) (.type "ValueError") = some true := by
  unfold PySem.W.kitOne
  rw [if_neg (show ¬ ((_ : Value) == _) = true from fun z => absurd (eq_of_beq z) (fun q => Value.noConfusion q))]
  show (if PySem.W.kitMeta "ValueError" = true then PySem.W.subIn K (.ref (cl i)) (.type "ValueError") else none) = _
  rw [if_pos (by decide +kernel), F.sub hi]
  rfl
theorem no_sub {a : Addr} (h1 : (PySem.W.clsIn K a).isSome = true) (h2 : PySem.W.typeIn K (.ref a) = some (.type "type")) : PySem.W.kitOne K (.type "ValueError") (.ref a) = some false := by
  unfold PySem.W.kitOne
  rw [if_neg (show ¬ ((_ : Value) == _) = true from fun z => absurd (eq_of_beq z) (fun q => Value.noConfusion q))]
  show (if ((PySem.W.clsIn K a).isSome && PySem.W.typeIn K (.ref a) == some (.type "type")) = true then PySem.W.subIn K (.type "ValueError") (.ref a) else none) = _
  rw [if_pos (by rw [h1, h2]; rfl)]
  show (PySem.fastBuiltinMro "ValueError").map (·.contains (.ref a)) = some false
  rw [show PySem.fastBuiltinMro "ValueError" = some [.type "ValueError", .type "Exception", .type "BaseException", .type "object"] by kernel_rfl]
  rfl
theorem Facts.no (F : Facts K cl) (hi : i ∈ ks) : PySem.W.kitOne K (.type "ValueError") (.ref (cl i)) = some false := by
  obtain ⟨cd, h1, _, h3⟩ := F.cls hi
  exact no_sub (by rw [h1]; rfl) h3
theorem Facts.nov (F : Facts K cl) : PySem.W.kitOne K (.type "ValueError") (.ref (cl "ViewError")) = some false := by
  have h := F.all.2.2.1
  unfold viewB at h
  simp only [Bool.and_eq_true, decide_eq_true_eq] at h
  exact no_sub h.1 h.2
end
end K00


namespace K00
open PySem PySem.Spec L2 DL
open PyProof.Rows hiding St pairD intD cutD
theorem draws : Draws G_l_draw := draws_of (a1 := 69621) (b1 := 83) (m1 := 2147483629) (a2 := 7919) (a3 := 48271) (m2 := 2147483647) (d1 := 1009) (e1 := 69621) (m3 := 2147483647) (d2 := 2003) (e2 := 40692) (m4 := 2147483399) (d3 := 16) (by decide)
theorem somes : Somes G_l_some := some_ok draws
def Rpr (d : D) : Prop := ∃ x, datX d = some x ∧ okX x = true
section
variable {K : PySem.W.Frag} {cl : Str → Addr} {i f : Str} {t d : D} {ρ : DL.Env} {m m1 m2 : List DL.C} {F : ES} {n b : Nat} {ns : List Str} {vs : List D}
theorem repr_ev (h : Rpr d) : ∃ x, ∀ m, reprXD [d] m = .ok (.str x) m := by
  obtain ⟨x, h1, h2⟩ := h
  refine ⟨x.shown, fun m => ?_⟩
  show (match datX d with
    | some x => if okX x then R.ok (D.str x.shown) m else .no
    | none => .no) = _
  rw [h1]
  show (if okX x = true then R.ok (D.str x.shown) m else .no) = _
  rw [if_pos h2]
theorem fld_ev {C : Addr} (h : F ρ m = .ok (.err (.ref C) [f] [t]) m1) (hx : XfC K C) (hf : PySem.W.findIn K (.ref C) f = some none) : eFldE K f F ρ m = .ok t m1 := by
  unfold eFldE
  rw [h]
  simp only [R.bind]
  rw [if_pos ⟨hx, hf⟩]
  unfold lookF
  rw [if_pos (beq_self_eq_true _)]
theorem ev_lz {G : LS} {a c r : List D} (h : G ρ m = .ok [.lst a, .lst c] m1) (hl : a.length = c.length) (hn : a ≠ []) (hz : zipT a c = r) : eLz G ρ m = .ok (.lst r) m1 := by
  unfold eLz
  rw [h]
  show (if a.length = c.length ∧ a ≠ [] then R.ok (D.lst (zipT a c)) m1 else .no) = _
  rw [if_pos ⟨hl, hn⟩, hz]
/-! ### the errors with a field -/
def fl (cl : Str → Addr) (t : D) : List D := fk.map fun p => .tup [.err (.ref (cl p.1)) [p.2] [t], t]
theorem filled_ev (H : Facts K cl) : G_l_filled K cl [t] m = .ok (.lst (fl cl t)) m := by
  have A : ∀ p ∈ fk, PySem.W.findIn K (.ref (cl p.1)) p.2 = some none := H.all.2.2.2.2
  have X : ∀ p ∈ fk, XfC K (cl p.1) := fun p hp => H.xf (by revert p; decide)
  have m0 : (("BadDisk" : Str), ("part" : Str)) ∈ fk := by decide
  have m1' : (("BadKept" : Str), ("area" : Str)) ∈ fk := by decide
  have m2' : (("BadStore" : Str), ("index" : Str)) ∈ fk := by decide
  have m3 : (("BadText" : Str), ("place" : Str)) ∈ fk := by decide
  have m4 : (("Barred" : Str), ("bar" : Str)) ∈ fk := by decide
  have m5 : (("Full" : Str), ("area" : Str)) ∈ fk := by decide
  have m6 : (("NotYet" : Str), ("lacking" : Str)) ∈ fk := by decide
  have m7 : (("TooMany" : Str), ("most" : Str)) ∈ fk := by decide
  exact fn_rt (sv_seq (sv_set (ev_lst (ev_cons rfl (ev_cons rfl (ev_cons rfl (ev_cons rfl (ev_cons rfl (ev_cons rfl (ev_cons rfl ev_nil))))))) (show 7 ≤ 100000 by decide)))
    (sv_seq (sv_set (ev_lst (ev_cons (fld_ev rfl (X _ m0) (A _ m0)) (ev_cons (fld_ev rfl (X _ m1') (A _ m1')) (ev_cons (fld_ev rfl (X _ m2') (A _ m2')) (ev_cons (fld_ev rfl (X _ m3) (A _ m3)) (ev_cons (fld_ev rfl (X _ m4) (A _ m4)) (ev_cons (fld_ev rfl (X _ m5) (A _ m5)) (ev_cons (fld_ev rfl (X _ m6) (A _ m6)) ev_nil))))))) (show 7 ≤ 100000 by decide)))
    (sv_seq (sv_set rfl) (sv_ret (ev_lz (ev_cons (ev_bin rfl (ev_lst (ev_cons rfl ev_nil) (show 1 ≤ 100000 by decide)) (add_lst (show 7 + 1 ≤ 100000 by decide))) (ev_cons (ev_bin rfl (ev_lst (ev_cons (fld_ev rfl (X _ m7) (A _ m7)) ev_nil) (show 1 ≤ 100000 by decide)) (add_lst (show 7 + 1 ≤ 100000 by decide))) ev_nil)) rfl (by simp) rfl)))))
/-! ### the thing -/
def things : List D := [.non, .int 0, .int (-1), .int (10 ^ 30), .bl true, .str "", .str "area", .tup [], .tup [.int 1, .tup [.int 2, .int 3]], .lst [.int 4, .lst [.int 5]], .dic [.inr "a"] [.int 1], .tup [.str "unsafe", .str "one"], .tup [.tup [.int 7, .int 1, .int 2]]]
theorem things_rpr : ∀ d ∈ things, Rpr d := by
  intro d hd
  unfold things at hd
  simp only [List.mem_cons, List.not_mem_nil, or_false] at hd
  rcases hd with rfl | rfl | rfl | rfl | rfl | rfl | rfl | rfl | rfl | rfl | rfl | rfl | rfl <;> exact ⟨_, rfl, by decide +kernel⟩
theorem thing_gets (h : Hand n b m) (hb : b < 1000000) : ∃ x m', G_l_thing [.cell n] m = .ok x m' ∧ Rpr x ∧ Hand n (b + 1) m' := by
  obtain ⟨x, m', e, hx, hh⟩ := some_gets somes h hb (l := things) (by unfold things; simp) (show 13 ≤ 100000 by decide)
  refine ⟨x, m', ?_, things_rpr x hx, hh⟩
  exact fn_rt (sv_seq (sv_set (ev_lst (ev_cons rfl (ev_cons rfl (ev_cons rfl (ev_cons rfl (ev_cons rfl (ev_cons rfl (ev_cons rfl (ev_cons (ev_tup ev_nil (show 0 ≤ 100000 by decide)) (ev_cons (ev_tup (ev_cons rfl (ev_cons (ev_tup (ev_cons rfl (ev_cons rfl ev_nil)) (show 2 ≤ 100000 by decide)) ev_nil)) (show 2 ≤ 100000 by decide)) (ev_cons (ev_lst (ev_cons rfl (ev_cons (ev_lst (ev_cons rfl ev_nil) (show 1 ≤ 100000 by decide)) ev_nil)) (show 2 ≤ 100000 by decide)) (ev_cons (ev_disp (r := ([.inr "a"], [.int 1])) (ev_pc rfl rfl rfl rfl) (show 1 ≤ 15 by decide) rfl) (ev_cons (ev_tup (ev_cons rfl (ev_cons rfl ev_nil)) (show 2 ≤ 100000 by decide)) ev_nil)))))))))))) (show 12 ≤ 100000 by decide)))
    (sv_ret (ev_call2 rfl (ev_bin rfl (ev_lst (ev_cons (ev_tup (ev_cons (ev_tup (ev_cons rfl (ev_cons rfl (ev_cons rfl ev_nil))) (show 3 ≤ 100000 by decide)) ev_nil) (show 1 ≤ 100000 by decide)) ev_nil) (show 1 ≤ 100000 by decide)) (add_lst (show 12 + 1 ≤ 100000 by decide))) e)))
end
end K00


namespace K00
open PySem PySem.Spec L2 DL
open PyProof.Rows hiding St pairD intD cutD
section
variable {K : PySem.W.Frag} {cl : Str → Addr} {i f : Str} {t d : D} {ρ : DL.Env} {m m1 m2 : List DL.C} {n b : Nat} {ns : List Str} {vs : List D} {o1 o2 o3 o4 o5 o6 o7 o8 : Option D}
theorem isX_ref {c : Value} {a : Addr} {p : Bool} (h : ErrCls K c) (e : PySem.W.kitOne K c (.ref a) = some p) : isXD K [.err c ns vs, .ref a] m = .ok (.bl p) m := by
  unfold isXD
  simp only [clsV]
  rw [if_pos h, e]
theorem isX_ty {c : Value} {x : String} {p : Bool} (h : ErrCls K c) (e : PySem.W.kitOne K c (.type x) = some p) : isXD K [.err c ns vs, .ty x] m = .ok (.bl p) m := by
  unfold isXD
  simp only [clsV]
  rw [if_pos h, e]
theorem ev_mtM {x : String} {g : D → List D → List DL.C → R D} {F Fa : ES} {a o r : D} (ho : F ρ m = .ok o m) (ht : tagOf m o = some x) (ha : Fa ρ m = .ok a m1) (hf : g o [a] m1 = .ok r m2) : eMt x g F (aCons Fa aNil) ρ m = .ok r m2 := by
  unfold eMt
  rw [ho]
  show (if tagOf m o = some x then (aCons Fa aNil ρ m).bind fun ds m2 => g o ds m2 else .no) = _
  rw [if_pos ht, show aCons Fa aNil ρ m = .ok [a] m1 from ev_cons ha ev_nil]
  exact hf
theorem count_one : ∀ i ∈ ks, (ks.map fun j => decide (i = j)).count true = 1 := by decide +kernel
theorem count_ev (hi : i ∈ ks) : countBD (.lst (qs (fun j => decide (i = j)) ks)) [.bl true] m = .ok (.int 1) m := by
  show (match bools (qs (fun j => decide (i = j)) ks) with
    | some bs => R.ok (D.int (bs.count true : Nat)) m
    | none => .no) = _
  unfold qs
  rw [bools_map]
  show R.ok (D.int ((ks.map fun j => decide (i = j)).count true : Nat)) m = _
  rw [count_one i hi]
  rfl
/-- an error of one of the classes -/
def IsE (cl : Str → Addr) (d : D) : Prop := ∃ i ns vs, i ∈ ks ∧ d = .err (.ref (cl i)) ns vs
noncomputable abbrev errS (K : PySem.W.Frag) (cl : Str → Addr) : SS := sSeq (sSet 6 (eCall 1 (G_l_kinds K cl) (aCons (eVar 5) aNil)))
    (sIf (bOr (bTest (eBin neD (eMt "list" countBD (eVar 6) (aCons (eC (.bl true)) aNil)) (eC (.int 1)))) (bOr (bNot (bTru (eAr (isXD K) (aCons (eVar 5) (aCons (eC (.ref (cl "ViewError"))) aNil))))) (bNot (bTru (eAr (isXD K) (aCons (eVar 5) (aCons (eC (.ty "ValueError")) aNil))))))) (sRet (eC (.bl false))) sSkip)
theorem err_turn (F : Facts K cl) (h : IsE cl d) : ∃ x, errS K cl [o1, o2, o3, o4, o5, some d, o7, o8] m = .nx [o1, o2, o3, o4, o5, some d, some x, o8] m := by
  obtain ⟨i, ns, vs, hi, rfl⟩ := h
  have hc : ErrCls K (.ref (cl i)) := F.exc hi
  have e1 := kinds_ev (K := K) (cl := cl) (e := .err (.ref (cl i)) ns vs) (m := m) (q := fun j => decide (i = j)) fun j hj m => isX_ref hc (F.me hi hj)
  have n1 : neD (.int 1) (.int 1) m = .ok (.bl false) m := rfl
  refine ⟨_, sv_seq (sv_set (ev_call1 rfl e1)) (sv_ifF (m1 := m) ?_ rfl)⟩
  exact bv_or (p := false) (q := false) (bv_test (ev_bin (ev_mtM rfl rfl rfl (count_ev hi)) rfl n1)) fun _ => bv_or (p := false) (q := false) (bv_not (p := true) (bv_trub (ev_ar2 rfl rfl (isX_ref hc (F.ve hi))))) fun _ => bv_not (p := true) (bv_trub (ev_ar2 rfl rfl (isX_ty hc (F.val hi))))
theorem err_loop (F : Facts K cl) : ∀ (ds : List D) (o6 o7 : Option D), (∀ d ∈ ds, IsE cl d) → ∃ x6 x7, loopD (gN 5) (errS K cl) ds [o1, o2, o3, o4, o5, o6, o7, o8] m = .nx [o1, o2, o3, o4, o5, x6, x7, o8] m
  | [], o6, o7, _ => ⟨o6, o7, rfl⟩
  | d :: ds, o6, o7, hd => by
    obtain ⟨x, e1⟩ := err_turn F (hd d List.mem_cons_self) (o1 := o1) (o2 := o2) (o3 := o3) (o4 := o4) (o5 := o5) (o7 := o7) (o8 := o8) (m := m)
    obtain ⟨x6, x7, e2⟩ := err_loop F ds (some d) (some x) fun d hd' => hd d (List.mem_cons_of_mem _ hd')
    exact ⟨x6, x7, loop_cons (ρ1 := [o1, o2, o3, o4, o5, some d, o7, o8]) rfl e1 e2⟩
theorem plain_isE : ∀ d ∈ es cl pk, IsE cl d := fun d hd => by
  unfold es at hd
  obtain ⟨i, hi, rfl⟩ := List.mem_map.mp hd
  exact ⟨i, _, _, (by decide : ∀ i ∈ pk, i ∈ ks) i hi, rfl⟩
theorem fl_isE : ∀ d ∈ fk.map (fun p => D.err (.ref (cl p.1)) [p.2] [t]), IsE cl d := fun d hd => by
  obtain ⟨p, hp, rfl⟩ := List.mem_map.mp hd
  exact ⟨p.1, _, _, (by decide : ∀ p ∈ fk, p.1 ∈ ks) p hp, rfl⟩
/-- the error of a pair -/
def fst (d : D) : D := match d with
  | .tup (x :: _) => x
  | _ => .non
theorem fl_fst : (fl cl t).map fst = fk.map fun p => D.err (.ref (cl p.1)) [p.2] [t] := rfl
theorem comp_ev (h : ρ = [o1, o2, o3, o4, some (.lst (fl cl t)), o6, o7, o8]) : eLc (iSeq (eVar 4)) (gT 2 (gsCons (gN 5) (gsCons (gN 7) gsNil))) [5, 7] bYes (eVar 5) ρ m = .ok (.lst (fk.map fun p => D.err (.ref (cl p.1)) [p.2] [t])) m := by
  subst h
  rw [← fl_fst]
  refine lc_pure fst (iSeq_lst rfl) (fun d hd => ?_) (show 8 ≤ 100000 by decide)
  unfold fl at hd
  obtain ⟨p, hp, rfl⟩ := List.mem_map.mp hd
  exact ⟨_, rfl, rfl⟩
theorem all_ev (h : Rpr t) : bNot (bTru (eAr allD (aCons (eLc (iSeq (eVar 4)) (gT 2 (gsCons (gN 5) (gsCons (gN 7) gsNil))) [5, 7] bYes (eBin eqD (eAr reprXD (aCons (eVar 7) aNil)) (eAr reprXD (aCons (eVar 3) aNil)))) aNil))) [o1, o2, o3, some t, some (.lst (fl cl t)), o6, o7, o8] m = .ok false m := by
  obtain ⟨x, hx⟩ := repr_ev h
  have e : eqD (.str x) (.str x) m = .ok (.bl true) m := by
    show R.ok (D.bl (decide (x = x))) m = _
    rw [decide_eq_true rfl]
  refine bv_not (p := true) (bv_trub (ev_ar1 (lc_pure (fun _ => .bl true) (iSeq_lst rfl) (fun d hd => ?_) (show 8 ≤ 100000 by decide)) rfl))
  unfold fl at hd
  obtain ⟨p, hp, rfl⟩ := List.mem_map.mp hd
  exact ⟨_, rfl, ev_bin (ev_ar1 rfl (hx m)) (ev_ar1 rfl (hx m)) e⟩
theorem law_ok (F : Facts K cl) {d : D} {ns : List Int} (hd : slD m d none (some 63) = .ok (.lst (DL.cutD (ns.map D.int) none (some 63))) m) : wR (G_law K cl [d] m) fun x m' => x = .bl true := by
  obtain ⟨x, m1, e1, rfl, h1⟩ := wR_ex (hand_ok (u := 211) (v := 7) (ns := ns) (Q := fun x m' => x = .cell m.length ∧ Hand m.length 0 m') (by decide) (by decide) (by decide) (by decide) hd fun c0 hc0 => ⟨rfl, c0, by simp, hc0⟩)
  generalize m.length = n at e1 h1
  obtain ⟨t, m2, e2, ht, h2⟩ := thing_gets h1 (by omega)
  have hall := all_ev (cl := cl) (o1 := some d) (o2 := some (.cell n)) (o3 := some (.lst (es cl pk))) (o6 := none) (o7 := none) (o8 := none) (m := m2) ht
  have hcm := comp_ev (cl := cl) (t := t) (o1 := some d) (o2 := some (.cell n)) (o3 := some (.lst (es cl pk))) (o4 := some t) (o6 := none) (o7 := none) (o8 := none) (m := m2) rfl
  obtain ⟨x6, x7, hl⟩ := err_loop F (es cl pk ++ fk.map fun p => D.err (.ref (cl p.1)) [p.2] [t]) none none (fun d hd => (List.mem_append.mp hd).elim (plain_isE d) (fl_isE d)) (o1 := some d) (o2 := some (.cell n)) (o3 := some (.lst (es cl pk))) (o4 := some t) (o5 := some (.lst (fl cl t))) (o8 := none) (m := m2)
  have hv : ErrCls K (.type "ValueError") := rfl
  have hk := kinds_ev (K := K) (cl := cl) (e := .err (.type "ValueError") [] []) (m := m2) (q := fun _ => false) fun j hj m => isX_ref hv (F.no hj)
  have er : ∀ {ρ : DL.Env}, eErrB (.type "ValueError") (aCons (eC (.str "one")) aNil) ρ m2 = .ok (.err (.type "ValueError") [] []) m2 := rfl
  have hin : inD (.bl true) (.lst (qs (fun _ => false) ks)) m2 = .ok (.bl false) m2 := rfl
  have e : G_law K cl [d] m = .ok (.bl true) m2 := fn_rt (sv_seq (sv_set (ev_call1 rfl e1)) (sv_seq (sv_set (ev_call1 rfl plain_ev)) (sv_seq (sv_ifF (bv_test (ev_bin (ev_ar1 rfl rfl) rfl rfl)) rfl) (sv_seq (sv_set (ev_call1 rfl e2)) (sv_seq (sv_set (ev_call1 rfl (filled_ev F)))
    (sv_seq (sv_ifF hall rfl) (sv_seq (sv_for (iSeq_lst (ev_bin rfl hcm (add_lst (show 35 + 8 ≤ 100000 by decide)))) hl)
    (sv_ret (ev_not (p := false) (ev_ar1 (ev_lst (ev_cons (ev_bin rfl (ev_call1 er hk) hin) (ev_cons (ev_ar2 er rfl (isX_ref hv F.nov)) ev_nil)) (show 2 ≤ 100000 by decide)) rfl))))))))))
  rw [e]
  rfl
end
end K00


namespace K00
open PySem PySem.Spec L2 DL
open PyProof.Rows hiding St pairD intD cutD
set_option maxHeartbeats 4000000 in
theorem all_mk {l : PySem.W.OpenLaw} {w : World} {K : PySem.W.Frag} {h : Heap} {mg : Str → Option Value} {fa  : Addr} (X : K.In h) (G : h.Ns mainGlobals mg) (hfa : mg "law" = some (.ref fa)) 
    {f0 f1 f2 f3 f4 f5 f6 f7 : Addr} {C_BadDeed C_BadDisk C_BadKept C_BadStore C_BadText C_Barred C_Down C_Full C_Here C_NoArea C_NoBook C_NoClosed C_NoDeed C_NoEdit C_NoFact C_NoFacts C_NoLetter C_NoLife C_NoLot C_NoMark C_NoName C_NoNumber C_NoPattern C_NoPlan C_NoPrime C_NoRoot C_NoRow C_NoRows C_NoRule C_NoSchema C_NoShowing C_NoStore C_NoStretch C_NoTables C_NoText C_NoView C_NotHere C_NotYet C_OtherPrime C_OtherSchema C_TooMany C_TooSmall C_Unsafe C_ViewError : Addr}
    {od0 an0 od1 an1 od2 an2 od3 an3 od4 an4 od5 an5 od6 an6 od7 an7 : Option Addr} {sl0 sl1 sl2 sl3 sl4 sl5 sl6 sl7 : Array (Option Value)} {oc0 kV0 dc0 pm0 cd0 ct0 oc1 kV1 dc1 pm1 cd1 ct1 oc2 kV2 dc2 pm2 cd2 ct2 oc3 kV3 dc3 pm3 cd3 ct3 oc4 kV4 dc4 pm4 cd4 ct4 oc5 kV5 dc5 pm5 cd5 ct5 oc6 kV6 dc6 pm6 cd6 ct6 oc7 kV7 dc7 pm7 cd7 ct7 : Value}
    {fI_BadDisk icd_BadDisk icc_BadDisk fI_BadKept icd_BadKept icc_BadKept fI_BadStore icd_BadStore icc_BadStore fI_BadText icd_BadText icc_BadText fI_Barred icd_Barred icc_Barred fI_Full icd_Full icc_Full fI_NotYet icd_NotYet icc_NotYet fI_TooMany icd_TooMany icc_TooMany : Addr} {ioc_BadDisk ikV_BadDisk idc_BadDisk ipm_BadDisk ict_BadDisk joc_BadDisk ioc_BadKept ikV_BadKept idc_BadKept ipm_BadKept ict_BadKept joc_BadKept ioc_BadStore ikV_BadStore idc_BadStore ipm_BadStore ict_BadStore joc_BadStore ioc_BadText ikV_BadText idc_BadText ipm_BadText ict_BadText joc_BadText ioc_Barred ikV_Barred idc_Barred ipm_Barred ict_Barred joc_Barred ioc_Full ikV_Full idc_Full ipm_Full ict_Full joc_Full ioc_NotYet ikV_NotYet idc_NotYet ipm_NotYet ict_NotYet joc_NotYet ioc_TooMany ikV_TooMany idc_TooMany ipm_TooMany ict_TooMany joc_TooMany : Value} {iod_BadDisk ian_BadDisk jod_BadDisk iod_BadKept ian_BadKept jod_BadKept iod_BadStore ian_BadStore jod_BadStore iod_BadText ian_BadText jod_BadText iod_Barred ian_Barred jod_Barred iod_Full ian_Full jod_Full iod_NotYet ian_NotYet jod_NotYet iod_TooMany ian_TooMany jod_TooMany : Option Addr} {isl_BadDisk jsl_BadDisk isl_BadKept jsl_BadKept isl_BadStore jsl_BadStore isl_BadText jsl_BadText isl_Barred jsl_Barred isl_Full jsl_Full isl_NotYet jsl_NotYet isl_TooMany jsl_TooMany : Array (Option Value)}
    (a0 : PySem.W.nsIn K mainGlobals "_law_hand" = some (some (.ref f0)))
    (l0 : K.lookup f0 = some ⟨oc0, od0, .func (PySem.W.fnOf "_law_hand" "_law_hand" (defArgs st_l_hand) (defBody st_l_hand) (defScope st_l_hand) .none kV0 dc0 pm0 an0 cd0 ct0), sl0⟩)
    (c0 : PySem.W.codeIn K cd0 "_law_hand" = true)
    (k0 : PySem.W.keepIn K (.ref f0) = true)
    (a1 : PySem.W.nsIn K mainGlobals "_law_draw" = some (some (.ref f1)))
    (l1 : K.lookup f1 = some ⟨oc1, od1, .func (PySem.W.fnOf "_law_draw" "_law_draw" (defArgs st_l_draw) (defBody st_l_draw) (defScope st_l_draw) .none kV1 dc1 pm1 an1 cd1 ct1), sl1⟩)
    (c1 : PySem.W.codeIn K cd1 "_law_draw" = true)
    (k1 : PySem.W.keepIn K (.ref f1) = true)
    (a2 : PySem.W.nsIn K mainGlobals "_law_some" = some (some (.ref f2)))
    (l2 : K.lookup f2 = some ⟨oc2, od2, .func (PySem.W.fnOf "_law_some" "_law_some" (defArgs st_l_some) (defBody st_l_some) (defScope st_l_some) .none kV2 dc2 pm2 an2 cd2 ct2), sl2⟩)
    (c2 : PySem.W.codeIn K cd2 "_law_some" = true)
    (k2 : PySem.W.keepIn K (.ref f2) = true)
    (a3 : PySem.W.nsIn K mainGlobals "_law_kinds" = some (some (.ref f3)))
    (l3 : K.lookup f3 = some ⟨oc3, od3, .func (PySem.W.fnOf "_law_kinds" "_law_kinds" (defArgs st_l_kinds) (defBody st_l_kinds) (defScope st_l_kinds) .none kV3 dc3 pm3 an3 cd3 ct3), sl3⟩)
    (c3 : PySem.W.codeIn K cd3 "_law_kinds" = true)
    (k3 : PySem.W.keepIn K (.ref f3) = true)
    (a4 : PySem.W.nsIn K mainGlobals "_law_plain" = some (some (.ref f4)))
    (l4 : K.lookup f4 = some ⟨oc4, od4, .func (PySem.W.fnOf "_law_plain" "_law_plain" (defArgs st_l_plain) (defBody st_l_plain) (defScope st_l_plain) .none kV4 dc4 pm4 an4 cd4 ct4), sl4⟩)
    (c4 : PySem.W.codeIn K cd4 "_law_plain" = true)
    (k4 : PySem.W.keepIn K (.ref f4) = true)
    (a5 : PySem.W.nsIn K mainGlobals "_law_filled" = some (some (.ref f5)))
    (l5 : K.lookup f5 = some ⟨oc5, od5, .func (PySem.W.fnOf "_law_filled" "_law_filled" (defArgs st_l_filled) (defBody st_l_filled) (defScope st_l_filled) .none kV5 dc5 pm5 an5 cd5 ct5), sl5⟩)
    (c5 : PySem.W.codeIn K cd5 "_law_filled" = true)
    (k5 : PySem.W.keepIn K (.ref f5) = true)
    (a6 : PySem.W.nsIn K mainGlobals "_law_thing" = some (some (.ref f6)))
    (l6 : K.lookup f6 = some ⟨oc6, od6, .func (PySem.W.fnOf "_law_thing" "_law_thing" (defArgs st_l_thing) (defBody st_l_thing) (defScope st_l_thing) .none kV6 dc6 pm6 an6 cd6 ct6), sl6⟩)
    (c6 : PySem.W.codeIn K cd6 "_law_thing" = true)
    (k6 : PySem.W.keepIn K (.ref f6) = true)
    (a7 : PySem.W.nsIn K mainGlobals "law" = some (some (.ref f7)))
    (l7 : K.lookup f7 = some ⟨oc7, od7, .func (PySem.W.fnOf "law" "law" (defArgs st_law) (defBody st_law) (defScope st_law) .none kV7 dc7 pm7 an7 cd7 ct7), sl7⟩)
    (c7 : PySem.W.codeIn K cd7 "law" = true)
    (k7 : PySem.W.keepIn K (.ref f7) = true)
    (ysys : (K.lookup sysModules).isSome = true)
    (g_BadDeed : PySem.W.nsIn K mainGlobals "BadDeed" = some (some (.ref C_BadDeed)))
    (g_BadDisk : PySem.W.nsIn K mainGlobals "BadDisk" = some (some (.ref C_BadDisk)))
    (g_BadKept : PySem.W.nsIn K mainGlobals "BadKept" = some (some (.ref C_BadKept)))
    (g_BadStore : PySem.W.nsIn K mainGlobals "BadStore" = some (some (.ref C_BadStore)))
    (g_BadText : PySem.W.nsIn K mainGlobals "BadText" = some (some (.ref C_BadText)))
    (g_Barred : PySem.W.nsIn K mainGlobals "Barred" = some (some (.ref C_Barred)))
    (g_Down : PySem.W.nsIn K mainGlobals "Down" = some (some (.ref C_Down)))
    (g_Full : PySem.W.nsIn K mainGlobals "Full" = some (some (.ref C_Full)))
    (g_Here : PySem.W.nsIn K mainGlobals "Here" = some (some (.ref C_Here)))
    (g_NoArea : PySem.W.nsIn K mainGlobals "NoArea" = some (some (.ref C_NoArea)))
    (g_NoBook : PySem.W.nsIn K mainGlobals "NoBook" = some (some (.ref C_NoBook)))
    (g_NoClosed : PySem.W.nsIn K mainGlobals "NoClosed" = some (some (.ref C_NoClosed)))
    (g_NoDeed : PySem.W.nsIn K mainGlobals "NoDeed" = some (some (.ref C_NoDeed)))
    (g_NoEdit : PySem.W.nsIn K mainGlobals "NoEdit" = some (some (.ref C_NoEdit)))
    (g_NoFact : PySem.W.nsIn K mainGlobals "NoFact" = some (some (.ref C_NoFact)))
    (g_NoFacts : PySem.W.nsIn K mainGlobals "NoFacts" = some (some (.ref C_NoFacts)))
    (g_NoLetter : PySem.W.nsIn K mainGlobals "NoLetter" = some (some (.ref C_NoLetter)))
    (g_NoLife : PySem.W.nsIn K mainGlobals "NoLife" = some (some (.ref C_NoLife)))
    (g_NoLot : PySem.W.nsIn K mainGlobals "NoLot" = some (some (.ref C_NoLot)))
    (g_NoMark : PySem.W.nsIn K mainGlobals "NoMark" = some (some (.ref C_NoMark)))
    (g_NoName : PySem.W.nsIn K mainGlobals "NoName" = some (some (.ref C_NoName)))
    (g_NoNumber : PySem.W.nsIn K mainGlobals "NoNumber" = some (some (.ref C_NoNumber)))
    (g_NoPattern : PySem.W.nsIn K mainGlobals "NoPattern" = some (some (.ref C_NoPattern)))
    (g_NoPlan : PySem.W.nsIn K mainGlobals "NoPlan" = some (some (.ref C_NoPlan)))
    (g_NoPrime : PySem.W.nsIn K mainGlobals "NoPrime" = some (some (.ref C_NoPrime)))
    (g_NoRoot : PySem.W.nsIn K mainGlobals "NoRoot" = some (some (.ref C_NoRoot)))
    (g_NoRow : PySem.W.nsIn K mainGlobals "NoRow" = some (some (.ref C_NoRow)))
    (g_NoRows : PySem.W.nsIn K mainGlobals "NoRows" = some (some (.ref C_NoRows)))
    (g_NoRule : PySem.W.nsIn K mainGlobals "NoRule" = some (some (.ref C_NoRule)))
    (g_NoSchema : PySem.W.nsIn K mainGlobals "NoSchema" = some (some (.ref C_NoSchema)))
    (g_NoShowing : PySem.W.nsIn K mainGlobals "NoShowing" = some (some (.ref C_NoShowing)))
    (g_NoStore : PySem.W.nsIn K mainGlobals "NoStore" = some (some (.ref C_NoStore)))
    (g_NoStretch : PySem.W.nsIn K mainGlobals "NoStretch" = some (some (.ref C_NoStretch)))
    (g_NoTables : PySem.W.nsIn K mainGlobals "NoTables" = some (some (.ref C_NoTables)))
    (g_NoText : PySem.W.nsIn K mainGlobals "NoText" = some (some (.ref C_NoText)))
    (g_NoView : PySem.W.nsIn K mainGlobals "NoView" = some (some (.ref C_NoView)))
    (g_NotHere : PySem.W.nsIn K mainGlobals "NotHere" = some (some (.ref C_NotHere)))
    (g_NotYet : PySem.W.nsIn K mainGlobals "NotYet" = some (some (.ref C_NotYet)))
    (g_OtherPrime : PySem.W.nsIn K mainGlobals "OtherPrime" = some (some (.ref C_OtherPrime)))
    (g_OtherSchema : PySem.W.nsIn K mainGlobals "OtherSchema" = some (some (.ref C_OtherSchema)))
    (g_TooMany : PySem.W.nsIn K mainGlobals "TooMany" = some (some (.ref C_TooMany)))
    (g_TooSmall : PySem.W.nsIn K mainGlobals "TooSmall" = some (some (.ref C_TooSmall)))
    (g_Unsafe : PySem.W.nsIn K mainGlobals "Unsafe" = some (some (.ref C_Unsafe)))
    (g_ViewError : PySem.W.nsIn K mainGlobals "ViewError" = some (some (.ref C_ViewError)))
    (i1_BadDisk : PySem.W.findIn K (.ref C_BadDisk) "__init__" = some (some (.ref fI_BadDisk)))
    (i2_BadDisk : PySem.W.typeIn K (.ref fI_BadDisk) = some (.type "function"))
    (i3_BadDisk : K.lookup fI_BadDisk = some ⟨ioc_BadDisk, iod_BadDisk, .func (PySem.W.ksFn "__init__" "BadDisk.__init__" (defArgs st_init_BadDisk) (defBody st_init_BadDisk) (defScope st_init_BadDisk) .none ikV_BadDisk idc_BadDisk ipm_BadDisk ian_BadDisk (.ref icd_BadDisk) ict_BadDisk icc_BadDisk), isl_BadDisk⟩)
    (i6_BadDisk : K.lookup icc_BadDisk = some ⟨joc_BadDisk, jod_BadDisk, .cell (some (.ref C_BadDisk)), jsl_BadDisk⟩)
    (i1_BadKept : PySem.W.findIn K (.ref C_BadKept) "__init__" = some (some (.ref fI_BadKept)))
    (i2_BadKept : PySem.W.typeIn K (.ref fI_BadKept) = some (.type "function"))
    (i3_BadKept : K.lookup fI_BadKept = some ⟨ioc_BadKept, iod_BadKept, .func (PySem.W.ksFn "__init__" "BadKept.__init__" (defArgs st_init_BadKept) (defBody st_init_BadKept) (defScope st_init_BadKept) .none ikV_BadKept idc_BadKept ipm_BadKept ian_BadKept (.ref icd_BadKept) ict_BadKept icc_BadKept), isl_BadKept⟩)
    (i6_BadKept : K.lookup icc_BadKept = some ⟨joc_BadKept, jod_BadKept, .cell (some (.ref C_BadKept)), jsl_BadKept⟩)
    (i1_BadStore : PySem.W.findIn K (.ref C_BadStore) "__init__" = some (some (.ref fI_BadStore)))
    (i2_BadStore : PySem.W.typeIn K (.ref fI_BadStore) = some (.type "function"))
    (i3_BadStore : K.lookup fI_BadStore = some ⟨ioc_BadStore, iod_BadStore, .func (PySem.W.ksFn "__init__" "BadStore.__init__" (defArgs st_init_BadStore) (defBody st_init_BadStore) (defScope st_init_BadStore) .none ikV_BadStore idc_BadStore ipm_BadStore ian_BadStore (.ref icd_BadStore) ict_BadStore icc_BadStore), isl_BadStore⟩)
    (i6_BadStore : K.lookup icc_BadStore = some ⟨joc_BadStore, jod_BadStore, .cell (some (.ref C_BadStore)), jsl_BadStore⟩)
    (i1_BadText : PySem.W.findIn K (.ref C_BadText) "__init__" = some (some (.ref fI_BadText)))
    (i2_BadText : PySem.W.typeIn K (.ref fI_BadText) = some (.type "function"))
    (i3_BadText : K.lookup fI_BadText = some ⟨ioc_BadText, iod_BadText, .func (PySem.W.ksFn "__init__" "BadText.__init__" (defArgs st_init_BadText) (defBody st_init_BadText) (defScope st_init_BadText) .none ikV_BadText idc_BadText ipm_BadText ian_BadText (.ref icd_BadText) ict_BadText icc_BadText), isl_BadText⟩)
    (i6_BadText : K.lookup icc_BadText = some ⟨joc_BadText, jod_BadText, .cell (some (.ref C_BadText)), jsl_BadText⟩)
    (i1_Barred : PySem.W.findIn K (.ref C_Barred) "__init__" = some (some (.ref fI_Barred)))
    (i2_Barred : PySem.W.typeIn K (.ref fI_Barred) = some (.type "function"))
    (i3_Barred : K.lookup fI_Barred = some ⟨ioc_Barred, iod_Barred, .func (PySem.W.ksFn "__init__" "Barred.__init__" (defArgs st_init_Barred) (defBody st_init_Barred) (defScope st_init_Barred) .none ikV_Barred idc_Barred ipm_Barred ian_Barred (.ref icd_Barred) ict_Barred icc_Barred), isl_Barred⟩)
    (i6_Barred : K.lookup icc_Barred = some ⟨joc_Barred, jod_Barred, .cell (some (.ref C_Barred)), jsl_Barred⟩)
    (i1_Full : PySem.W.findIn K (.ref C_Full) "__init__" = some (some (.ref fI_Full)))
    (i2_Full : PySem.W.typeIn K (.ref fI_Full) = some (.type "function"))
    (i3_Full : K.lookup fI_Full = some ⟨ioc_Full, iod_Full, .func (PySem.W.ksFn "__init__" "Full.__init__" (defArgs st_init_Full) (defBody st_init_Full) (defScope st_init_Full) .none ikV_Full idc_Full ipm_Full ian_Full (.ref icd_Full) ict_Full icc_Full), isl_Full⟩)
    (i6_Full : K.lookup icc_Full = some ⟨joc_Full, jod_Full, .cell (some (.ref C_Full)), jsl_Full⟩)
    (i1_NotYet : PySem.W.findIn K (.ref C_NotYet) "__init__" = some (some (.ref fI_NotYet)))
    (i2_NotYet : PySem.W.typeIn K (.ref fI_NotYet) = some (.type "function"))
    (i3_NotYet : K.lookup fI_NotYet = some ⟨ioc_NotYet, iod_NotYet, .func (PySem.W.ksFn "__init__" "NotYet.__init__" (defArgs st_init_NotYet) (defBody st_init_NotYet) (defScope st_init_NotYet) .none ikV_NotYet idc_NotYet ipm_NotYet ian_NotYet (.ref icd_NotYet) ict_NotYet icc_NotYet), isl_NotYet⟩)
    (i6_NotYet : K.lookup icc_NotYet = some ⟨joc_NotYet, jod_NotYet, .cell (some (.ref C_NotYet)), jsl_NotYet⟩)
    (i1_TooMany : PySem.W.findIn K (.ref C_TooMany) "__init__" = some (some (.ref fI_TooMany)))
    (i2_TooMany : PySem.W.typeIn K (.ref fI_TooMany) = some (.type "function"))
    (i3_TooMany : K.lookup fI_TooMany = some ⟨ioc_TooMany, iod_TooMany, .func (PySem.W.ksFn "__init__" "TooMany.__init__" (defArgs st_init_TooMany) (defBody st_init_TooMany) (defScope st_init_TooMany) .none ikV_TooMany idc_TooMany ipm_TooMany ian_TooMany (.ref icd_TooMany) ict_TooMany icc_TooMany), isl_TooMany⟩)
    (i6_TooMany : K.lookup icc_TooMany = some ⟨joc_TooMany, jod_TooMany, .cell (some (.ref C_TooMany)), jsl_TooMany⟩)
    (inis0 : (iniB l.prog K C_BadDisk icd_BadDisk "BadDisk.__init__" "part" && (iniB l.prog K C_BadKept icd_BadKept "BadKept.__init__" "area" && (iniB l.prog K C_BadStore icd_BadStore "BadStore.__init__" "index" && (iniB l.prog K C_BadText icd_BadText "BadText.__init__" "place" && (iniB l.prog K C_Barred icd_Barred "Barred.__init__" "bar" && (iniB l.prog K C_Full icd_Full "Full.__init__" "area" && (iniB l.prog K C_NotYet icd_NotYet "NotYet.__init__" "lacking" && iniB l.prog K C_TooMany icd_TooMany "TooMany.__init__" "most"))))))) = true)
    (y_super : PySem.W.nsIn K mainGlobals "super" = some none)
    (y_stat : PySem.W.nsIn K cStatics "thirdparty.any" = some none)
    (y_top : (l.prog.main.scope.names.lookup ("super" : Str)).isSome = false)
    (y1 : PySem.W.specialIn K (.builtin "object.__class__") "__get__" = some (some (.builtin "getset_descriptor.__get__")))
    (y2 : PySem.W.takesIn K (.builtin "object.__class__") = some true)
    (z_ValueError : PySem.W.nsIn K mainGlobals "ValueError" = some none)
    (z_abs : PySem.W.nsIn K mainGlobals "abs" = some none)
    (z_all : PySem.W.nsIn K mainGlobals "all" = some none)
    (z_any : PySem.W.nsIn K mainGlobals "any" = some none)
    (z_int : PySem.W.nsIn K mainGlobals "int" = some none)
    (z_isinstance : PySem.W.nsIn K mainGlobals "isinstance" = some none)
    (z_len : PySem.W.nsIn K mainGlobals "len" = some none)
    (z_list : PySem.W.nsIn K mainGlobals "list" = some none)
    (z_repr : PySem.W.nsIn K mainGlobals "repr" = some none)
    (z_zip : PySem.W.nsIn K mainGlobals "zip" = some none)
    (errs0 : (errB K C_BadDeed && (errB K C_Down && (errB K C_Here && (errB K C_NoArea && (errB K C_NoBook && (errB K C_NoClosed && (errB K C_NoDeed && (errB K C_NoEdit && (errB K C_NoFact && (errB K C_NoFacts && (errB K C_NoLetter && (errB K C_NoLife && (errB K C_NoLot && (errB K C_NoMark && (errB K C_NoName && (errB K C_NoNumber && (errB K C_NoPattern && (errB K C_NoPlan && (errB K C_NoPrime && (errB K C_NoRoot && (errB K C_NoRow && (errB K C_NoRows && (errB K C_NoRule && (errB K C_NoSchema && (errB K C_NoShowing && (errB K C_NoStore && (errB K C_NoStretch && (errB K C_NoTables && (errB K C_NoText && (errB K C_NoView && (errB K C_NotHere && (errB K C_OtherPrime && (errB K C_OtherSchema && (errB K C_TooSmall && errB K C_Unsafe)))))))))))))))))))))))))))))))))) = true)
    (top0 : topB K C_ViewError [C_BadDeed, C_BadDisk, C_BadKept, C_BadStore, C_BadText, C_Barred, C_Down, C_Full, C_Here, C_NoArea, C_NoBook, C_NoClosed, C_NoDeed, C_NoEdit, C_NoFact, C_NoFacts, C_NoLetter, C_NoLife, C_NoLot, C_NoMark, C_NoName, C_NoNumber, C_NoPattern, C_NoPlan, C_NoPrime, C_NoRoot, C_NoRow, C_NoRows, C_NoRule, C_NoSchema, C_NoShowing, C_NoStore, C_NoStretch, C_NoTables, C_NoText, C_NoView, C_NotHere, C_NotYet, C_OtherPrime, C_OtherSchema, C_TooMany, C_TooSmall, C_Unsafe] [(C_BadDisk, ("part" : Str)), (C_BadKept, ("area" : Str)), (C_BadStore, ("index" : Str)), (C_BadText, ("place" : Str)), (C_Barred, ("bar" : Str)), (C_Full, ("area" : Str)), (C_NotYet, ("lacking" : Str)), (C_TooMany, ("most" : Str))] = true)
    : DL.LawAtG l w K (L2.CX l.prog w) 4 63 "script" mg fa h := by
  have e : fa = f7 := Value.ref.inj (Option.some.inj (hfa.symm.trans (PySem.W.mg_of X G a7)))
  subst e
  have F0 := fun_mk (st := st_l_hand) l0 c0 k0
  have b0 := F0.binds (ps := ["script"]) fun _ _ _ _ _ _ us hl => match us, hl with | [_], _ => rfl
  have F1 := fun_mk (st := st_l_draw) l1 c1 k1
  have b1 := F1.binds (ps := ["hand", "many"]) fun _ _ _ _ _ _ us hl => match us, hl with | [_, _], _ => rfl
  have F2 := fun_mk (st := st_l_some) l2 c2 k2
  have b2 := F2.binds (ps := ["hand", "things"]) fun _ _ _ _ _ _ us hl => match us, hl with | [_, _], _ => rfl
  have F3 := fun_mk (st := st_l_kinds) l3 c3 k3
  have b3 := F3.binds (ps := ["one"]) fun _ _ _ _ _ _ us hl => match us, hl with | [_], _ => rfl
  have F4 := fun_mk (st := st_l_plain) l4 c4 k4
  have b4 := F4.binds (ps := ["hand"]) fun _ _ _ _ _ _ us hl => match us, hl with | [_], _ => rfl
  have F5 := fun_mk (st := st_l_filled) l5 c5 k5
  have b5 := F5.binds (ps := ["thing"]) fun _ _ _ _ _ _ us hl => match us, hl with | [_], _ => rfl
  have F6 := fun_mk (st := st_l_thing) l6 c6 k6
  have b6 := F6.binds (ps := ["hand"]) fun _ _ _ _ _ _ us hl => match us, hl with | [_], _ => rfl
  have F7 := fun_mk (st := st_law) l7 c7 k7
  have b7 := F7.binds (ps := ["script"]) fun _ _ _ _ _ _ us hl => match us, hl with | [_], _ => rfl
  simp only [Bool.and_eq_true] at errs0
  obtain ⟨eb_BadDeed, eb_Down, eb_Here, eb_NoArea, eb_NoBook, eb_NoClosed, eb_NoDeed, eb_NoEdit, eb_NoFact, eb_NoFacts, eb_NoLetter, eb_NoLife, eb_NoLot, eb_NoMark, eb_NoName, eb_NoNumber, eb_NoPattern, eb_NoPlan, eb_NoPrime, eb_NoRoot, eb_NoRow, eb_NoRows, eb_NoRule, eb_NoSchema, eb_NoShowing, eb_NoStore, eb_NoStretch, eb_NoTables, eb_NoText, eb_NoView, eb_NotHere, eb_OtherPrime, eb_OtherSchema, eb_TooSmall, eb_Unsafe⟩ := errs0
  obtain ⟨e1_BadDeed, e2_BadDeed, e3_BadDeed, e4_BadDeed⟩ := errB_ok eb_BadDeed
  obtain ⟨e1_Down, e2_Down, e3_Down, e4_Down⟩ := errB_ok eb_Down
  obtain ⟨e1_Here, e2_Here, e3_Here, e4_Here⟩ := errB_ok eb_Here
  obtain ⟨e1_NoArea, e2_NoArea, e3_NoArea, e4_NoArea⟩ := errB_ok eb_NoArea
  obtain ⟨e1_NoBook, e2_NoBook, e3_NoBook, e4_NoBook⟩ := errB_ok eb_NoBook
  obtain ⟨e1_NoClosed, e2_NoClosed, e3_NoClosed, e4_NoClosed⟩ := errB_ok eb_NoClosed
  obtain ⟨e1_NoDeed, e2_NoDeed, e3_NoDeed, e4_NoDeed⟩ := errB_ok eb_NoDeed
  obtain ⟨e1_NoEdit, e2_NoEdit, e3_NoEdit, e4_NoEdit⟩ := errB_ok eb_NoEdit
  obtain ⟨e1_NoFact, e2_NoFact, e3_NoFact, e4_NoFact⟩ := errB_ok eb_NoFact
  obtain ⟨e1_NoFacts, e2_NoFacts, e3_NoFacts, e4_NoFacts⟩ := errB_ok eb_NoFacts
  obtain ⟨e1_NoLetter, e2_NoLetter, e3_NoLetter, e4_NoLetter⟩ := errB_ok eb_NoLetter
  obtain ⟨e1_NoLife, e2_NoLife, e3_NoLife, e4_NoLife⟩ := errB_ok eb_NoLife
  obtain ⟨e1_NoLot, e2_NoLot, e3_NoLot, e4_NoLot⟩ := errB_ok eb_NoLot
  obtain ⟨e1_NoMark, e2_NoMark, e3_NoMark, e4_NoMark⟩ := errB_ok eb_NoMark
  obtain ⟨e1_NoName, e2_NoName, e3_NoName, e4_NoName⟩ := errB_ok eb_NoName
  obtain ⟨e1_NoNumber, e2_NoNumber, e3_NoNumber, e4_NoNumber⟩ := errB_ok eb_NoNumber
  obtain ⟨e1_NoPattern, e2_NoPattern, e3_NoPattern, e4_NoPattern⟩ := errB_ok eb_NoPattern
  obtain ⟨e1_NoPlan, e2_NoPlan, e3_NoPlan, e4_NoPlan⟩ := errB_ok eb_NoPlan
  obtain ⟨e1_NoPrime, e2_NoPrime, e3_NoPrime, e4_NoPrime⟩ := errB_ok eb_NoPrime
  obtain ⟨e1_NoRoot, e2_NoRoot, e3_NoRoot, e4_NoRoot⟩ := errB_ok eb_NoRoot
  obtain ⟨e1_NoRow, e2_NoRow, e3_NoRow, e4_NoRow⟩ := errB_ok eb_NoRow
  obtain ⟨e1_NoRows, e2_NoRows, e3_NoRows, e4_NoRows⟩ := errB_ok eb_NoRows
  obtain ⟨e1_NoRule, e2_NoRule, e3_NoRule, e4_NoRule⟩ := errB_ok eb_NoRule
  obtain ⟨e1_NoSchema, e2_NoSchema, e3_NoSchema, e4_NoSchema⟩ := errB_ok eb_NoSchema
  obtain ⟨e1_NoShowing, e2_NoShowing, e3_NoShowing, e4_NoShowing⟩ := errB_ok eb_NoShowing
  obtain ⟨e1_NoStore, e2_NoStore, e3_NoStore, e4_NoStore⟩ := errB_ok eb_NoStore
  obtain ⟨e1_NoStretch, e2_NoStretch, e3_NoStretch, e4_NoStretch⟩ := errB_ok eb_NoStretch
  obtain ⟨e1_NoTables, e2_NoTables, e3_NoTables, e4_NoTables⟩ := errB_ok eb_NoTables
  obtain ⟨e1_NoText, e2_NoText, e3_NoText, e4_NoText⟩ := errB_ok eb_NoText
  obtain ⟨e1_NoView, e2_NoView, e3_NoView, e4_NoView⟩ := errB_ok eb_NoView
  obtain ⟨e1_NotHere, e2_NotHere, e3_NotHere, e4_NotHere⟩ := errB_ok eb_NotHere
  obtain ⟨e1_OtherPrime, e2_OtherPrime, e3_OtherPrime, e4_OtherPrime⟩ := errB_ok eb_OtherPrime
  obtain ⟨e1_OtherSchema, e2_OtherSchema, e3_OtherSchema, e4_OtherSchema⟩ := errB_ok eb_OtherSchema
  obtain ⟨e1_TooSmall, e2_TooSmall, e3_TooSmall, e4_TooSmall⟩ := errB_ok eb_TooSmall
  obtain ⟨e1_Unsafe, e2_Unsafe, e3_Unsafe, e4_Unsafe⟩ := errB_ok eb_Unsafe
  simp only [Bool.and_eq_true] at inis0
  obtain ⟨ib_BadDisk, ib_BadKept, ib_BadStore, ib_BadText, ib_Barred, ib_Full, ib_NotYet, ib_TooMany⟩ := inis0
  have m_BadDeed := PySem.W.mg_of X G g_BadDeed
  have m_BadDisk := PySem.W.mg_of X G g_BadDisk
  have m_BadKept := PySem.W.mg_of X G g_BadKept
  have m_BadStore := PySem.W.mg_of X G g_BadStore
  have m_BadText := PySem.W.mg_of X G g_BadText
  have m_Barred := PySem.W.mg_of X G g_Barred
  have m_Down := PySem.W.mg_of X G g_Down
  have m_Full := PySem.W.mg_of X G g_Full
  have m_Here := PySem.W.mg_of X G g_Here
  have m_NoArea := PySem.W.mg_of X G g_NoArea
  have m_NoBook := PySem.W.mg_of X G g_NoBook
  have m_NoClosed := PySem.W.mg_of X G g_NoClosed
  have m_NoDeed := PySem.W.mg_of X G g_NoDeed
  have m_NoEdit := PySem.W.mg_of X G g_NoEdit
  have m_NoFact := PySem.W.mg_of X G g_NoFact
  have m_NoFacts := PySem.W.mg_of X G g_NoFacts
  have m_NoLetter := PySem.W.mg_of X G g_NoLetter
  have m_NoLife := PySem.W.mg_of X G g_NoLife
  have m_NoLot := PySem.W.mg_of X G g_NoLot
  have m_NoMark := PySem.W.mg_of X G g_NoMark
  have m_NoName := PySem.W.mg_of X G g_NoName
  have m_NoNumber := PySem.W.mg_of X G g_NoNumber
  have m_NoPattern := PySem.W.mg_of X G g_NoPattern
  have m_NoPlan := PySem.W.mg_of X G g_NoPlan
  have m_NoPrime := PySem.W.mg_of X G g_NoPrime
  have m_NoRoot := PySem.W.mg_of X G g_NoRoot
  have m_NoRow := PySem.W.mg_of X G g_NoRow
  have m_NoRows := PySem.W.mg_of X G g_NoRows
  have m_NoRule := PySem.W.mg_of X G g_NoRule
  have m_NoSchema := PySem.W.mg_of X G g_NoSchema
  have m_NoShowing := PySem.W.mg_of X G g_NoShowing
  have m_NoStore := PySem.W.mg_of X G g_NoStore
  have m_NoStretch := PySem.W.mg_of X G g_NoStretch
  have m_NoTables := PySem.W.mg_of X G g_NoTables
  have m_NoText := PySem.W.mg_of X G g_NoText
  have m_NoView := PySem.W.mg_of X G g_NoView
  have m_NotHere := PySem.W.mg_of X G g_NotHere
  have m_NotYet := PySem.W.mg_of X G g_NotYet
  have m_OtherPrime := PySem.W.mg_of X G g_OtherPrime
  have m_OtherSchema := PySem.W.mg_of X G g_OtherSchema
  have m_TooMany := PySem.W.mg_of X G g_TooMany
  have m_TooSmall := PySem.W.mg_of X G g_TooSmall
  have m_Unsafe := PySem.W.mg_of X G g_Unsafe
  have m_ViewError := PySem.W.mg_of X G g_ViewError
  let t := fun (base : Heap) (hsys : SysIn base) => ({
    l_hand := ⟨f0, _, F0, PySem.W.mg_of X G a0, b0⟩,
    l_draw := ⟨f1, _, F1, PySem.W.mg_of X G a1, b1⟩,
    l_some := ⟨f2, _, F2, PySem.W.mg_of X G a2, b2⟩,
    l_kinds := ⟨f3, _, F3, PySem.W.mg_of X G a3, b3⟩,
    l_plain := ⟨f4, _, F4, PySem.W.mg_of X G a4, b4⟩,
    l_filled := ⟨f5, _, F5, PySem.W.mg_of X G a5, b5⟩,
    l_thing := ⟨f6, _, F6, PySem.W.mg_of X G a6, b6⟩,
    law := ⟨fa, _, F7, PySem.W.mg_of X G a7, b7⟩,
    sysm := hsys,
    k_BadDeed := cls_at m_BadDeed,
    k_BadDisk := cls_at m_BadDisk,
    k_BadKept := cls_at m_BadKept,
    k_BadStore := cls_at m_BadStore,
    k_BadText := cls_at m_BadText,
    k_Barred := cls_at m_Barred,
    k_Down := cls_at m_Down,
    k_Full := cls_at m_Full,
    k_Here := cls_at m_Here,
    k_NoArea := cls_at m_NoArea,
    k_NoBook := cls_at m_NoBook,
    k_NoClosed := cls_at m_NoClosed,
    k_NoDeed := cls_at m_NoDeed,
    k_NoEdit := cls_at m_NoEdit,
    k_NoFact := cls_at m_NoFact,
    k_NoFacts := cls_at m_NoFacts,
    k_NoLetter := cls_at m_NoLetter,
    k_NoLife := cls_at m_NoLife,
    k_NoLot := cls_at m_NoLot,
    k_NoMark := cls_at m_NoMark,
    k_NoName := cls_at m_NoName,
    k_NoNumber := cls_at m_NoNumber,
    k_NoPattern := cls_at m_NoPattern,
    k_NoPlan := cls_at m_NoPlan,
    k_NoPrime := cls_at m_NoPrime,
    k_NoRoot := cls_at m_NoRoot,
    k_NoRow := cls_at m_NoRow,
    k_NoRows := cls_at m_NoRows,
    k_NoRule := cls_at m_NoRule,
    k_NoSchema := cls_at m_NoSchema,
    k_NoShowing := cls_at m_NoShowing,
    k_NoStore := cls_at m_NoStore,
    k_NoStretch := cls_at m_NoStretch,
    k_NoTables := cls_at m_NoTables,
    k_NoText := cls_at m_NoText,
    k_NoView := cls_at m_NoView,
    k_NotHere := cls_at m_NotHere,
    k_NotYet := cls_at m_NotYet,
    k_OtherPrime := cls_at m_OtherPrime,
    k_OtherSchema := cls_at m_OtherSchema,
    k_TooMany := cls_at m_TooMany,
    k_TooSmall := cls_at m_TooSmall,
    k_Unsafe := cls_at m_Unsafe,
    k_ViewError := cls_at m_ViewError,
    i_BadDisk := init_cl (mk_init_BadDisk i3_BadDisk (initLf_mk ib_BadDisk m_BadDisk i1_BadDisk i2_BadDisk i6_BadDisk (PySem.W.mg_none_of X G y_super) y_top y_stat)),
    i_BadKept := init_cl (mk_init_BadKept i3_BadKept (initLf_mk ib_BadKept m_BadKept i1_BadKept i2_BadKept i6_BadKept (PySem.W.mg_none_of X G y_super) y_top y_stat)),
    i_BadStore := init_cl (mk_init_BadStore i3_BadStore (initLf_mk ib_BadStore m_BadStore i1_BadStore i2_BadStore i6_BadStore (PySem.W.mg_none_of X G y_super) y_top y_stat)),
    i_BadText := init_cl (mk_init_BadText i3_BadText (initLf_mk ib_BadText m_BadText i1_BadText i2_BadText i6_BadText (PySem.W.mg_none_of X G y_super) y_top y_stat)),
    i_Barred := init_cl (mk_init_Barred i3_Barred (initLf_mk ib_Barred m_Barred i1_Barred i2_Barred i6_Barred (PySem.W.mg_none_of X G y_super) y_top y_stat)),
    i_Full := init_cl (mk_init_Full i3_Full (initLf_mk ib_Full m_Full i1_Full i2_Full i6_Full (PySem.W.mg_none_of X G y_super) y_top y_stat)),
    i_NotYet := init_cl (mk_init_NotYet i3_NotYet (initLf_mk ib_NotYet m_NotYet i1_NotYet i2_NotYet i6_NotYet (PySem.W.mg_none_of X G y_super) y_top y_stat)),
    i_TooMany := init_cl (mk_init_TooMany i3_TooMany (initLf_mk ib_TooMany m_TooMany i1_TooMany i2_TooMany i6_TooMany (PySem.W.mg_none_of X G y_super) y_top y_stat)),
    r_BadDeed := err_at m_BadDeed e1_BadDeed e2_BadDeed e3_BadDeed e4_BadDeed,
    r_Down := err_at m_Down e1_Down e2_Down e3_Down e4_Down,
    r_Here := err_at m_Here e1_Here e2_Here e3_Here e4_Here,
    r_NoArea := err_at m_NoArea e1_NoArea e2_NoArea e3_NoArea e4_NoArea,
    r_NoBook := err_at m_NoBook e1_NoBook e2_NoBook e3_NoBook e4_NoBook,
    r_NoClosed := err_at m_NoClosed e1_NoClosed e2_NoClosed e3_NoClosed e4_NoClosed,
    r_NoDeed := err_at m_NoDeed e1_NoDeed e2_NoDeed e3_NoDeed e4_NoDeed,
    r_NoEdit := err_at m_NoEdit e1_NoEdit e2_NoEdit e3_NoEdit e4_NoEdit,
    r_NoFact := err_at m_NoFact e1_NoFact e2_NoFact e3_NoFact e4_NoFact,
    r_NoFacts := err_at m_NoFacts e1_NoFacts e2_NoFacts e3_NoFacts e4_NoFacts,
    r_NoLetter := err_at m_NoLetter e1_NoLetter e2_NoLetter e3_NoLetter e4_NoLetter,
    r_NoLife := err_at m_NoLife e1_NoLife e2_NoLife e3_NoLife e4_NoLife,
    r_NoLot := err_at m_NoLot e1_NoLot e2_NoLot e3_NoLot e4_NoLot,
    r_NoMark := err_at m_NoMark e1_NoMark e2_NoMark e3_NoMark e4_NoMark,
    r_NoName := err_at m_NoName e1_NoName e2_NoName e3_NoName e4_NoName,
    r_NoNumber := err_at m_NoNumber e1_NoNumber e2_NoNumber e3_NoNumber e4_NoNumber,
    r_NoPattern := err_at m_NoPattern e1_NoPattern e2_NoPattern e3_NoPattern e4_NoPattern,
    r_NoPlan := err_at m_NoPlan e1_NoPlan e2_NoPlan e3_NoPlan e4_NoPlan,
    r_NoPrime := err_at m_NoPrime e1_NoPrime e2_NoPrime e3_NoPrime e4_NoPrime,
    r_NoRoot := err_at m_NoRoot e1_NoRoot e2_NoRoot e3_NoRoot e4_NoRoot,
    r_NoRow := err_at m_NoRow e1_NoRow e2_NoRow e3_NoRow e4_NoRow,
    r_NoRows := err_at m_NoRows e1_NoRows e2_NoRows e3_NoRows e4_NoRows,
    r_NoRule := err_at m_NoRule e1_NoRule e2_NoRule e3_NoRule e4_NoRule,
    r_NoSchema := err_at m_NoSchema e1_NoSchema e2_NoSchema e3_NoSchema e4_NoSchema,
    r_NoShowing := err_at m_NoShowing e1_NoShowing e2_NoShowing e3_NoShowing e4_NoShowing,
    r_NoStore := err_at m_NoStore e1_NoStore e2_NoStore e3_NoStore e4_NoStore,
    r_NoStretch := err_at m_NoStretch e1_NoStretch e2_NoStretch e3_NoStretch e4_NoStretch,
    r_NoTables := err_at m_NoTables e1_NoTables e2_NoTables e3_NoTables e4_NoTables,
    r_NoText := err_at m_NoText e1_NoText e2_NoText e3_NoText e4_NoText,
    r_NoView := err_at m_NoView e1_NoView e2_NoView e3_NoView e4_NoView,
    r_NotHere := err_at m_NotHere e1_NotHere e2_NotHere e3_NotHere e4_NotHere,
    r_OtherPrime := err_at m_OtherPrime e1_OtherPrime e2_OtherPrime e3_OtherPrime e4_OtherPrime,
    r_OtherSchema := err_at m_OtherSchema e1_OtherSchema e2_OtherSchema e3_OtherSchema e4_OtherSchema,
    r_TooSmall := err_at m_TooSmall e1_TooSmall e2_TooSmall e3_TooSmall e4_TooSmall,
    r_Unsafe := err_at m_Unsafe e1_Unsafe e2_Unsafe e3_Unsafe e4_Unsafe,
    z_ValueError := PySem.W.mg_none_of X G z_ValueError,
    z_abs := PySem.W.mg_none_of X G z_abs,
    z_all := PySem.W.mg_none_of X G z_all,
    z_any := PySem.W.mg_none_of X G z_any,
    z_int := PySem.W.mg_none_of X G z_int,
    z_isinstance := PySem.W.mg_none_of X G z_isinstance,
    z_len := PySem.W.mg_none_of X G z_len,
    z_list := PySem.W.mg_none_of X G z_list,
    z_repr := PySem.W.mg_none_of X G z_repr,
    z_zip := PySem.W.mg_none_of X G z_zip } : Txt l.prog K mg (clM mg) (fun i => [].getD i 0) base)
  have e1 : ks.map (clM mg) = [C_BadDeed, C_BadDisk, C_BadKept, C_BadStore, C_BadText, C_Barred, C_Down, C_Full, C_Here, C_NoArea, C_NoBook, C_NoClosed, C_NoDeed, C_NoEdit, C_NoFact, C_NoFacts, C_NoLetter, C_NoLife, C_NoLot, C_NoMark, C_NoName, C_NoNumber, C_NoPattern, C_NoPlan, C_NoPrime, C_NoRoot, C_NoRow, C_NoRows, C_NoRule, C_NoSchema, C_NoShowing, C_NoStore, C_NoStretch, C_NoTables, C_NoText, C_NoView, C_NotHere, C_NotYet, C_OtherPrime, C_OtherSchema, C_TooMany, C_TooSmall, C_Unsafe] := by
    show [clM mg "BadDeed", clM mg "BadDisk", clM mg "BadKept", clM mg "BadStore", clM mg "BadText", clM mg "Barred", clM mg "Down", clM mg "Full", clM mg "Here", clM mg "NoArea", clM mg "NoBook", clM mg "NoClosed", clM mg "NoDeed", clM mg "NoEdit", clM mg "NoFact", clM mg "NoFacts", clM mg "NoLetter", clM mg "NoLife", clM mg "NoLot", clM mg "NoMark", clM mg "NoName", clM mg "NoNumber", clM mg "NoPattern", clM mg "NoPlan", clM mg "NoPrime", clM mg "NoRoot", clM mg "NoRow", clM mg "NoRows", clM mg "NoRule", clM mg "NoSchema", clM mg "NoShowing", clM mg "NoStore", clM mg "NoStretch", clM mg "NoTables", clM mg "NoText", clM mg "NoView", clM mg "NotHere", clM mg "NotYet", clM mg "OtherPrime", clM mg "OtherSchema", clM mg "TooMany", clM mg "TooSmall", clM mg "Unsafe"] = _
    simp only [clM_of m_BadDeed, clM_of m_BadDisk, clM_of m_BadKept, clM_of m_BadStore, clM_of m_BadText, clM_of m_Barred, clM_of m_Down, clM_of m_Full, clM_of m_Here, clM_of m_NoArea, clM_of m_NoBook, clM_of m_NoClosed, clM_of m_NoDeed, clM_of m_NoEdit, clM_of m_NoFact, clM_of m_NoFacts, clM_of m_NoLetter, clM_of m_NoLife, clM_of m_NoLot, clM_of m_NoMark, clM_of m_NoName, clM_of m_NoNumber, clM_of m_NoPattern, clM_of m_NoPlan, clM_of m_NoPrime, clM_of m_NoRoot, clM_of m_NoRow, clM_of m_NoRows, clM_of m_NoRule, clM_of m_NoSchema, clM_of m_NoShowing, clM_of m_NoStore, clM_of m_NoStretch, clM_of m_NoTables, clM_of m_NoText, clM_of m_NoView, clM_of m_NotHere, clM_of m_NotYet, clM_of m_OtherPrime, clM_of m_OtherSchema, clM_of m_TooMany, clM_of m_TooSmall, clM_of m_Unsafe]
  have e2 : fk.map (fun p => (clM mg p.1, p.2)) = [(C_BadDisk, ("part" : Str)), (C_BadKept, ("area" : Str)), (C_BadStore, ("index" : Str)), (C_BadText, ("place" : Str)), (C_Barred, ("bar" : Str)), (C_Full, ("area" : Str)), (C_NotYet, ("lacking" : Str)), (C_TooMany, ("most" : Str))] := by
    show [(clM mg "BadDisk", ("part" : Str)), (clM mg "BadKept", ("area" : Str)), (clM mg "BadStore", ("index" : Str)), (clM mg "BadText", ("place" : Str)), (clM mg "Barred", ("bar" : Str)), (clM mg "Full", ("area" : Str)), (clM mg "NotYet", ("lacking" : Str)), (clM mg "TooMany", ("most" : Str))] = _
    simp only [clM_of m_BadDisk, clM_of m_BadKept, clM_of m_BadStore, clM_of m_BadText, clM_of m_Barred, clM_of m_Full, clM_of m_NotYet, clM_of m_TooMany]
  have FF : Facts K (clM mg) := ⟨by rw [e1, e2, clM_of m_ViewError]; exact top0, y1, y2⟩
  have BB : ∀ (s : Shared) (u : Value), BindsTo s (PySem.W.fnOf "law" "law" (defArgs st_law) (defBody st_law) (defScope st_law) .none kV7 dc7 pm7 an7 cd7 ct7) ⟨[u], []⟩ [("script", u)] := fun s u => .of_eq rfl
  have h1 : ∀ p ∈ ([] : List (Addr × Addr)), h.get? p.2 = some { cls := .none, data := .fields #[] } := fun p hp => nomatch hp
  have h2 : ∀ p ∈ ([] : List (Addr × Addr)), K.lookup p.2 = none := fun p hp => nomatch hp
  have h3 : ∀ p ∈ ([] : List (Addr × Addr)), PySem.W.CodeHd h p.1 p.2 := fun p hp => nomatch hp
  refine ⟨_, [], spD K [] 1 (G_law K (clM mg)), ⟨h1, h2, h3⟩, fun s u => BB s u, fun H a ns hl hbits hT hS => ?_, fun base hK _ hTB => ?_⟩
  · have hTT : LamX.Tabs [] H := fun p hp => nomatch hp
    exact law_sp hTT hS fun d m hd => law_ok FF hd
  · exact ok_law (t base ⟨_, hK _ _ (Option.some_get ysys).symm⟩)
end K00
open PySem PySem.W PyProof.Rows
set_option maxRecDepth 100000 in
set_option maxHeartbeats 0 in
theorem PySem.Challenge.cw_shownviews_k00_errors_and_their_fields_holds : PySem.Challenge.rw_shownviews_k00_errors_and_their_fields.Holds := by
  w_on; o_law; x_head; (case hw => w_witness2)
  k_fill
  refine DL.walkG (l := PySem.Challenge.rw_shownviews_k00_errors_and_their_fields) (n := 63) (k := 4) (x := "script") (CX := fun w => L2.CX (PySem.W.OpenLaw.prog PySem.Challenge.rw_shownviews_k00_errors_and_their_fields) w) rfl (by decide) rfl ⟨rfl, by decide, by decide⟩ (fun w h Y => PySem.W.kIn_of Y) ?F (fun w H s e s' z => DL.CX_no z)
  case F =>
    intro w mg fa h Y KX G hmg
    refine' K00.all_mk KX G hmg  ?a0 ?l0 ?c0 ?k0 ?a1 ?l1 ?c1 ?k1 ?a2 ?l2 ?c2 ?k2 ?a3 ?l3 ?c3 ?k3 ?a4 ?l4 ?c4 ?k4 ?a5 ?l5 ?c5 ?k5 ?a6 ?l6 ?c6 ?k6 ?a7 ?l7 ?c7 ?k7 ?ysys ?g_BadDeed ?g_BadDisk ?g_BadKept ?g_BadStore ?g_BadText ?g_Barred ?g_Down ?g_Full ?g_Here ?g_NoArea ?g_NoBook ?g_NoClosed ?g_NoDeed ?g_NoEdit ?g_NoFact ?g_NoFacts ?g_NoLetter ?g_NoLife ?g_NoLot ?g_NoMark ?g_NoName ?g_NoNumber ?g_NoPattern ?g_NoPlan ?g_NoPrime ?g_NoRoot ?g_NoRow ?g_NoRows ?g_NoRule ?g_NoSchema ?g_NoShowing ?g_NoStore ?g_NoStretch ?g_NoTables ?g_NoText ?g_NoView ?g_NotHere ?g_NotYet ?g_OtherPrime ?g_OtherSchema ?g_TooMany ?g_TooSmall ?g_Unsafe ?g_ViewError ?i1_BadDisk ?i2_BadDisk ?i3_BadDisk ?i6_BadDisk ?i1_BadKept ?i2_BadKept ?i3_BadKept ?i6_BadKept ?i1_BadStore ?i2_BadStore ?i3_BadStore ?i6_BadStore ?i1_BadText ?i2_BadText ?i3_BadText ?i6_BadText ?i1_Barred ?i2_Barred ?i3_Barred ?i6_Barred ?i1_Full ?i2_Full ?i3_Full ?i6_Full ?i1_NotYet ?i2_NotYet ?i3_NotYet ?i6_NotYet ?i1_TooMany ?i2_TooMany ?i3_TooMany ?i6_TooMany ?inis0 ?y_super ?y_stat ?y_top ?y1 ?y2 ?z_ValueError ?z_abs ?z_all ?z_any ?z_int ?z_isinstance ?z_len ?z_list ?z_repr ?z_zip ?errs0 ?top0
    (case a0 => k_is); (case l0 => k_is); (case c0 => k_is); (case k0 => k_is); (case a1 => k_is); (case l1 => k_is); (case c1 => k_is); (case k1 => k_is); (case a2 => k_is)
    (case l2 => k_is); (case c2 => k_is); (case k2 => k_is); (case a3 => k_is); (case l3 => k_is); (case c3 => k_is); (case k3 => k_is); (case a4 => k_is); (case l4 => k_is)
    (case c4 => k_is); (case k4 => k_is); (case a5 => k_is); (case l5 => k_is); (case c5 => k_is); (case k5 => k_is); (case a6 => k_is); (case l6 => k_is); (case c6 => k_is)
    (case k6 => k_is); (case a7 => k_is); (case l7 => k_is); (case c7 => k_is); (case k7 => k_is); (case ysys => kernel_rfl); (case g_BadDeed => k_is); (case g_BadDisk => k_is)
    (case g_BadKept => k_is); (case g_BadStore => k_is); (case g_BadText => k_is); (case g_Barred => k_is); (case g_Down => k_is); (case g_Full => k_is); (case g_Here => k_is)
    (case g_NoArea => k_is); (case g_NoBook => k_is); (case g_NoClosed => k_is); (case g_NoDeed => k_is); (case g_NoEdit => k_is); (case g_NoFact => k_is); (case g_NoFacts => k_is)
    (case g_NoLetter => k_is); (case g_NoLife => k_is); (case g_NoLot => k_is); (case g_NoMark => k_is); (case g_NoName => k_is); (case g_NoNumber => k_is); (case g_NoPattern => k_is)
    (case g_NoPlan => k_is); (case g_NoPrime => k_is); (case g_NoRoot => k_is); (case g_NoRow => k_is); (case g_NoRows => k_is); (case g_NoRule => k_is); (case g_NoSchema => k_is)
    (case g_NoShowing => k_is); (case g_NoStore => k_is); (case g_NoStretch => k_is); (case g_NoTables => k_is); (case g_NoText => k_is); (case g_NoView => k_is)
    (case g_NotHere => k_is); (case g_NotYet => k_is); (case g_OtherPrime => k_is); (case g_OtherSchema => k_is); (case g_TooMany => k_is); (case g_TooSmall => k_is)
    (case g_Unsafe => k_is); (case g_ViewError => k_is); (case i1_BadDisk => k_is); (case i2_BadDisk => k_is); (case i3_BadDisk => k_is); (case i6_BadDisk => k_is)
    (case i1_BadKept => k_is); (case i2_BadKept => k_is); (case i3_BadKept => k_is); (case i6_BadKept => k_is); (case i1_BadStore => k_is); (case i2_BadStore => k_is)
    (case i3_BadStore => k_is); (case i6_BadStore => k_is); (case i1_BadText => k_is); (case i2_BadText => k_is); (case i3_BadText => k_is); (case i6_BadText => k_is)
    (case i1_Barred => k_is); (case i2_Barred => k_is); (case i3_Barred => k_is); (case i6_Barred => k_is); (case i1_Full => k_is); (case i2_Full => k_is); (case i3_Full => k_is)
    (case i6_Full => k_is); (case i1_NotYet => k_is); (case i2_NotYet => k_is); (case i3_NotYet => k_is); (case i6_NotYet => k_is); (case i1_TooMany => k_is); (case i2_TooMany => k_is)
    (case i3_TooMany => k_is); (case i6_TooMany => k_is); (case inis0 => kernel_rfl); (case y_super => k_is); (case y_stat => k_is); (case y_top => kernel_rfl)
    (case y1 => k_is); (case y2 => k_is); (case z_ValueError => k_is); (case z_abs => k_is); (case z_all => k_is); (case z_any => k_is); (case z_int => k_is); (case z_isinstance => k_is)
    (case z_len => k_is); (case z_list => k_is); (case z_repr => k_is); (case z_zip => k_is); (case errs0 => kernel_rfl); (case top0 => kernel_rfl)

