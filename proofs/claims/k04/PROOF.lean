import PyProof.Rows.All
import Wide.All
import OpenK.AllK
import Wide.FinOn
import HandS.ForMost
import HandS.ForExc
import HandS.Lambda
import HandS.EndTab
import HandS.ExcInit
import HandS.ExcField
import HandS.Wide
import HandS.Walk
import HandS.TupAny
import HandS.TupMul
import HandS.IsInst
import HandS.TupLe
import KE.GoesMore
import KE.KExcIs
import HandS.HeadHook4
import HandS.HeadWalk
import HandS.Head3
import HandS.NestedK
import PySem.Challenge.RW_liesborne_k04_inverses

section
set_option Elab.async false
set_option linter.all false
set_option maxRecDepth 100000
set_option maxHeartbeats 4000000
/-! Y0: data trees, what they mean in the abstract heap, footprints, the state predicate. -/
namespace Y
open PySem PySem.Spec PyProof.Rows L2

/-- plain data; a list (a dict) tells whether it is owned (nothing else leads to it); un: a slot that nothing is known of; tok, tex: a closure by what a call of it gives -/
inductive D where
  | un | non | bl (b : Bool) | int (i : Int) | str (s : Str)
  | tup (ds : List D) | lst (o : Bool) (ds : List D) | dct (o : Bool) (ks : List Key) (ds : List D)
  | scr (ns : List Int)
  | tok (d : D) | tex (n : Str) (d : D)

/-- the surroundings of a running body: fx: slots that stay as they came in, σ0; FB: the frozen heap at the entry; G: closures -/
structure Ctx where
  K : PySem.W.Frag
  mg : Str → Option Value
  T : List (Addr × Str)
  G : Addr → Option D
  FB : Hp
  fx : Nat → Bool
  σ0 : L2.St
  CB : List (Addr × Str)

mutual
/-- d stands at v; A: the owned objects in it, in order -/
def Rel (c : Ctx) (F H : Hp) : D → V → List Addr → Prop
  | .un, _, _ => False
  | .non, v, A => v = .non ∧ A = []
  | .bl b, v, A => v = .bl b ∧ A = []
  | .int i, v, A => v = .int i ∧ A = []
  | .str s, v, A => v = .str s ∧ A = []
  | .tup ds, v, A => ∃ p vs, v = .ref p ∧ SqT c.K F p vs ∧ Rels c F H ds vs A
  | .lst true ds, v, A => ∃ p vs B, v = .ref p ∧ H p = some (.lst vs) ∧ F p = none ∧ A = p :: B ∧ Rels c F H ds vs B
  | .lst false ds, v, A => ∃ p vs, v = .ref p ∧ F p = some (.lst vs) ∧ A = [] ∧ Rels c F H ds vs []
  | .dct true ks ds, v, A => ∃ p vs B, v = .ref p ∧ H p = some (.dK (ks.zip vs)) ∧ ks.length = ds.length ∧ F p = none ∧ A = p :: B ∧ Rels c F H ds vs B
  | .dct false ks ds, v, A => ∃ p vs, v = .ref p ∧ F p = some (.dK (ks.zip vs)) ∧ ks.length = ds.length ∧ A = [] ∧ Rels c F H ds vs []
  | .scr ns, v, A => ∃ p, v = .ref p ∧ SqL c.K F p (ns.map V.int) ∧ A = []
  | .tok d, v, A => ∃ f, v = .ref f ∧ c.G f = some (.tok d) ∧ A = []
  | .tex n d, v, A => ∃ f, v = .ref f ∧ c.G f = some (.tex n d) ∧ A = []
def Rels (c : Ctx) (F H : Hp) : List D → List V → List Addr → Prop
  | [], vs, A => vs = [] ∧ A = []
  | d :: ds, vs, A => ∃ v ws B C, vs = v :: ws ∧ A = B ++ C ∧ Rel c F H d v B ∧ Rels c F H ds ws C
end

mutual
/-- nothing owned in it -/
def D.pl : D → Bool
  | .un => false
  | .tup ds => D.pls ds
  | .lst o ds => !o && D.pls ds
  | .dct o _ ds => !o && D.pls ds
  | _ => true
def D.pls : List D → Bool
  | [] => true
  | d :: ds => d.pl && D.pls ds
end
mutual
/-- the same, owned by nobody any more -/
def D.frz : D → D
  | .tup ds => .tup (D.frzs ds)
  | .lst _ ds => .lst false (D.frzs ds)
  | .dct _ ks ds => .dct false ks (D.frzs ds)
  | d => d
def D.frzs : List D → List D
  | [] => []
  | d :: ds => d.frz :: D.frzs ds
end
mutual
/-- no closure in it -/
def D.nk : D → Bool
  | .un => false
  | .tup ds => D.nks ds
  | .lst _ ds => D.nks ds
  | .dct _ _ ds => D.nks ds
  | .tok _ => false
  | .tex _ _ => false
  | _ => true
def D.nks : List D → Bool
  | [] => true
  | d :: ds => d.nk && D.nks ds
end

theorem frzs_map : ∀ ds : List D, D.frzs ds = ds.map D.frz
  | [] => rfl
  | d :: ds => by rw [D.frzs, frzs_map ds]; rfl
theorem pls_all : ∀ ds : List D, D.pls ds = ds.all D.pl
  | [] => rfl
  | d :: ds => by rw [D.pls, pls_all ds]; rfl
theorem nks_all : ∀ ds : List D, D.nks ds = ds.all D.nk
  | [] => rfl
  | d :: ds => by rw [D.nks, nks_all ds]; rfl

section
variable {c : Ctx} {F H F' H' : Hp}

/-! ### lists -/
theorem Rels.length : ∀ {ds : List D} {vs : List V} {A : List Addr}, Rels c F H ds vs A → vs.length = ds.length
  | [], vs, A, h => by obtain ⟨rfl, _⟩ := h; rfl
  | d :: ds, vs, A, h => by
    obtain ⟨v, ws, B, C, rfl, _, _, r⟩ := h
    simp [Rels.length r]
theorem Rels.nil : Rels c F H [] [] [] := ⟨rfl, rfl⟩
theorem Rels.cons {d : D} {ds : List D} {v : V} {vs : List V} {A B : List Addr} (h : Rel c F H d v A) (r : Rels c F H ds vs B) : Rels c F H (d :: ds) (v :: vs) (A ++ B) := ⟨v, vs, A, B, rfl, rfl, h, r⟩
theorem Rels.append : ∀ {ds es : List D} {vs ws : List V} {A B : List Addr}, Rels c F H ds vs A → Rels c F H es ws B → Rels c F H (ds ++ es) (vs ++ ws) (A ++ B)
  | [], es, vs, ws, A, B, h, r => by obtain ⟨rfl, rfl⟩ := h; exact r
  | d :: ds, es, vs, ws, A, B, h, r => by
    obtain ⟨v, us, C, E, rfl, rfl, h1, h2⟩ := h
    exact ⟨v, us ++ ws, C, E ++ B, rfl, by simp, h1, Rels.append h2 r⟩
theorem Rels.split : ∀ {ds es : List D} {vs : List V} {A : List Addr}, Rels c F H (ds ++ es) vs A → ∃ ws us B C, vs = ws ++ us ∧ A = B ++ C ∧ Rels c F H ds ws B ∧ Rels c F H es us C
  | [], es, vs, A, h => ⟨[], vs, [], A, rfl, rfl, Rels.nil, h⟩
  | d :: ds, es, vs, A, h => by
    obtain ⟨v, us, B, C, rfl, rfl, h1, h2⟩ := h
    obtain ⟨w1, w2, B1, B2, rfl, rfl, h3, h4⟩ := Rels.split (ds := ds) h2
    exact ⟨v :: w1, w2, B ++ B1, B2, rfl, by simp, Rels.cons h1 h3, h4⟩

mutual
theorem Rel.owned : ∀ {d : D} {v : V} {A : List Addr}, Rel c F H d v A → ∀ b ∈ A, F b = none ∧ ∃ o, H b = some o ∧ ∀ ps, o ≠ .tbl ps
  | .un, v, A, h => h.elim
  | .non, v, A, h => by obtain ⟨_, rfl⟩ := h; intro b z; cases z
  | .bl _, v, A, h => by obtain ⟨_, rfl⟩ := h; intro b z; cases z
  | .int _, v, A, h => by obtain ⟨_, rfl⟩ := h; intro b z; cases z
  | .str _, v, A, h => by obtain ⟨_, rfl⟩ := h; intro b z; cases z
  | .tup ds, v, A, h => by obtain ⟨p, vs, _, _, r⟩ := h; exact Rels.owned r
  | .lst true ds, v, A, h => by
    obtain ⟨p, vs, B, _, h1, h2, rfl, r⟩ := h
    intro b z
    rcases List.mem_cons.mp z with rfl | z
    · exact ⟨h2, _, h1, fun ps q => by cases q⟩
    · exact Rels.owned r b z
  | .lst false ds, v, A, h => by obtain ⟨p, vs, _, _, rfl, _⟩ := h; intro b z; cases z
  | .dct true ks ds, v, A, h => by
    obtain ⟨p, vs, B, _, h1, _, h2, rfl, r⟩ := h
    intro b z
    rcases List.mem_cons.mp z with rfl | z
    · exact ⟨h2, _, h1, fun ps q => by cases q⟩
    · exact Rels.owned r b z
  | .dct false ks ds, v, A, h => by obtain ⟨p, vs, _, _, _, rfl, _⟩ := h; intro b z; cases z
  | .scr _, v, A, h => by obtain ⟨p, _, _, rfl⟩ := h; intro b z; cases z
  | .tok _, v, A, h => by obtain ⟨p, _, _, rfl⟩ := h; intro b z; cases z
  | .tex _ _, v, A, h => by obtain ⟨p, _, _, rfl⟩ := h; intro b z; cases z
theorem Rels.owned : ∀ {ds : List D} {vs : List V} {A : List Addr}, Rels c F H ds vs A → ∀ b ∈ A, F b = none ∧ ∃ o, H b = some o ∧ ∀ ps, o ≠ .tbl ps
  | [], vs, A, h => by obtain ⟨_, rfl⟩ := h; intro b z; cases z
  | d :: ds, vs, A, h => by
    obtain ⟨v, us, B, C, _, rfl, h1, h2⟩ := h
    intro b z
    rcases List.mem_append.mp z with z | z
    · exact Rel.owned h1 b z
    · exact Rels.owned h2 b z
end
mutual
theorem Rel.noExt : ∀ {d : D} {v : V} {A : List Addr}, Rel c F H d v A → ∀ b ∈ A, ∀ φ, H b ≠ some (.ext φ)
  | .un, v, A, h => h.elim
  | .non, v, A, h => by obtain ⟨_, rfl⟩ := h; intro b z; cases z
  | .bl _, v, A, h => by obtain ⟨_, rfl⟩ := h; intro b z; cases z
  | .int _, v, A, h => by obtain ⟨_, rfl⟩ := h; intro b z; cases z
  | .str _, v, A, h => by obtain ⟨_, rfl⟩ := h; intro b z; cases z
  | .tup ds, v, A, h => by obtain ⟨p, vs, _, _, r⟩ := h; exact Rels.noExt r
  | .lst true ds, v, A, h => by
    obtain ⟨p, vs, B, _, h1, h2, rfl, r⟩ := h
    intro b z φ e
    rcases List.mem_cons.mp z with rfl | z
    · rw [h1] at e; cases e
    · exact Rels.noExt r b z φ e
  | .lst false ds, v, A, h => by obtain ⟨p, vs, _, _, rfl, _⟩ := h; intro b z; cases z
  | .dct true ks ds, v, A, h => by
    obtain ⟨p, vs, B, _, h1, _, h2, rfl, r⟩ := h
    intro b z φ e
    rcases List.mem_cons.mp z with rfl | z
    · rw [h1] at e; cases e
    · exact Rels.noExt r b z φ e
  | .dct false ks ds, v, A, h => by obtain ⟨p, vs, _, _, _, rfl, _⟩ := h; intro b z; cases z
  | .scr _, v, A, h => by obtain ⟨p, _, _, rfl⟩ := h; intro b z; cases z
  | .tok _, v, A, h => by obtain ⟨p, _, _, rfl⟩ := h; intro b z; cases z
  | .tex _ _, v, A, h => by obtain ⟨p, _, _, rfl⟩ := h; intro b z; cases z
theorem Rels.noExt : ∀ {ds : List D} {vs : List V} {A : List Addr}, Rels c F H ds vs A → ∀ b ∈ A, ∀ φ, H b ≠ some (.ext φ)
  | [], vs, A, h => by obtain ⟨_, rfl⟩ := h; intro b z; cases z
  | d :: ds, vs, A, h => by
    obtain ⟨v, us, B, C, _, rfl, h1, h2⟩ := h
    intro b z
    rcases List.mem_append.mp z with z | z
    · exact Rel.noExt h1 b z
    · exact Rels.noExt h2 b z
end
theorem sqT_mono {K : PySem.W.Frag} {a : Addr} {xs : List V} (e : ∀ b o, F b = some o → F' b = some o) (h : SqT K F a xs) : SqT K F' a xs := by
  rcases h with (h | ⟨o, h⟩) | h
  · exact .inl (.inl (e _ _ h))
  · exact .inl (.inr ⟨o, e _ _ h⟩)
  · exact .inr h
theorem sqL_mono {K : PySem.W.Frag} {a : Addr} {xs : List V} (e : ∀ b o, F b = some o → F' b = some o) (h : SqL K F a xs) : SqL K F' a xs := by
  rcases h with (h | ⟨o, h⟩) | h
  · exact .inl (.inl (e _ _ h))
  · exact .inl (.inr ⟨o, e _ _ h⟩)
  · exact .inr h
mutual
theorem Rel.mono (e : ∀ b o, F b = some o → F' b = some o) : ∀ {d : D} {v : V} {A : List Addr}, Rel c F H d v A → (∀ b ∈ A, H' b = H b ∧ F' b = none) → Rel c F' H' d v A
  | .un, v, A, h, k => h.elim
  | .non, v, A, h, k => h
  | .bl _, v, A, h, k => h
  | .int _, v, A, h, k => h
  | .str _, v, A, h, k => h
  | .tup ds, v, A, h, k => by
    obtain ⟨p, vs, h1, h2, r⟩ := h
    exact ⟨p, vs, h1, sqT_mono e h2, Rels.mono e r k⟩
  | .lst true ds, v, A, h, k => by
    obtain ⟨p, vs, B, h0, h1, h2, rfl, r⟩ := h
    have z := k p List.mem_cons_self
    exact ⟨p, vs, B, h0, z.1.trans h1, z.2, rfl, Rels.mono e r fun b hb => k b (List.mem_cons_of_mem _ hb)⟩
  | .lst false ds, v, A, h, k => by
    obtain ⟨p, vs, h0, h1, rfl, r⟩ := h
    exact ⟨p, vs, h0, e _ _ h1, rfl, Rels.mono e r fun b hb => by cases hb⟩
  | .dct true ks ds, v, A, h, k => by
    obtain ⟨p, vs, B, h0, h1, h3, h2, rfl, r⟩ := h
    have z := k p List.mem_cons_self
    exact ⟨p, vs, B, h0, z.1.trans h1, h3, z.2, rfl, Rels.mono e r fun b hb => k b (List.mem_cons_of_mem _ hb)⟩
  | .dct false ks ds, v, A, h, k => by
    obtain ⟨p, vs, h0, h1, h3, rfl, r⟩ := h
    exact ⟨p, vs, h0, e _ _ h1, h3, rfl, Rels.mono e r fun b hb => by cases hb⟩
  | .scr _, v, A, h, k => by
    obtain ⟨p, h0, h1, h2⟩ := h
    exact ⟨p, h0, sqL_mono e h1, h2⟩
  | .tok _, v, A, h, k => h
  | .tex _ _, v, A, h, k => h
theorem Rels.mono (e : ∀ b o, F b = some o → F' b = some o) : ∀ {ds : List D} {vs : List V} {A : List Addr}, Rels c F H ds vs A → (∀ b ∈ A, H' b = H b ∧ F' b = none) → Rels c F' H' ds vs A
  | [], vs, A, h, k => h
  | d :: ds, vs, A, h, k => by
    obtain ⟨v, us, B, C, h0, rfl, h1, h2⟩ := h
    exact ⟨v, us, B, C, h0, rfl, Rel.mono e h1 fun b hb => k b (List.mem_append_left _ hb), Rels.mono e h2 fun b hb => k b (List.mem_append_right _ hb)⟩
end
mutual
theorem Rel.froze (e : ∀ b o, F b = some o → F' b = some o) : ∀ {d : D} {v : V} {A : List Addr}, Rel c F H d v A → (∀ b ∈ A, F' b = H b) → Rel c F' H' d.frz v []
  | .un, v, A, h, k => h.elim
  | .non, v, A, h, k => ⟨h.1, rfl⟩
  | .bl _, v, A, h, k => ⟨h.1, rfl⟩
  | .int _, v, A, h, k => ⟨h.1, rfl⟩
  | .str _, v, A, h, k => ⟨h.1, rfl⟩
  | .tup ds, v, A, h, k => by
    obtain ⟨p, vs, h1, h2, r⟩ := h
    exact ⟨p, vs, h1, sqT_mono e h2, Rels.froze e r k⟩
  | .lst true ds, v, A, h, k => by
    obtain ⟨p, vs, B, h0, h1, h2, rfl, r⟩ := h
    exact ⟨p, vs, h0, (k p List.mem_cons_self).trans h1, rfl, Rels.froze e r fun b hb => k b (List.mem_cons_of_mem _ hb)⟩
  | .lst false ds, v, A, h, k => by
    obtain ⟨p, vs, h0, h1, rfl, r⟩ := h
    exact ⟨p, vs, h0, e _ _ h1, rfl, Rels.froze e r fun b hb => by cases hb⟩
  | .dct true ks ds, v, A, h, k => by
    obtain ⟨p, vs, B, h0, h1, h3, h2, rfl, r⟩ := h
    exact ⟨p, vs, h0, (k p List.mem_cons_self).trans h1, by rw [frzs_map, List.length_map]; exact h3, rfl, Rels.froze e r fun b hb => k b (List.mem_cons_of_mem _ hb)⟩
  | .dct false ks ds, v, A, h, k => by
    obtain ⟨p, vs, h0, h1, h3, rfl, r⟩ := h
    exact ⟨p, vs, h0, e _ _ h1, by rw [frzs_map, List.length_map]; exact h3, rfl, Rels.froze e r fun b hb => by cases hb⟩
  | .scr _, v, A, h, k => by
    obtain ⟨p, h0, h1, h2⟩ := h
    exact ⟨p, h0, sqL_mono e h1, rfl⟩
  | .tok _, v, A, h, k => by obtain ⟨f, h0, h1, _⟩ := h; exact ⟨f, h0, h1, rfl⟩
  | .tex _ _, v, A, h, k => by obtain ⟨f, h0, h1, _⟩ := h; exact ⟨f, h0, h1, rfl⟩
theorem Rels.froze (e : ∀ b o, F b = some o → F' b = some o) : ∀ {ds : List D} {vs : List V} {A : List Addr}, Rels c F H ds vs A → (∀ b ∈ A, F' b = H b) → Rels c F' H' (D.frzs ds) vs []
  | [], vs, A, h, k => ⟨h.1, rfl⟩
  | d :: ds, vs, A, h, k => by
    obtain ⟨v, us, B, C, h0, rfl, h1, h2⟩ := h
    exact ⟨v, us, [], [], h0, rfl, Rel.froze e h1 fun b hb => k b (List.mem_append_left _ hb), Rels.froze e h2 fun b hb => k b (List.mem_append_right _ hb)⟩
end
mutual
theorem Rel.pl_nil : ∀ {d : D} {v : V} {A : List Addr}, Rel c F H d v A → d.pl = true → A = []
  | .un, v, A, h, k => h.elim
  | .non, v, A, h, k => h.2
  | .bl _, v, A, h, k => h.2
  | .int _, v, A, h, k => h.2
  | .str _, v, A, h, k => h.2
  | .tup ds, v, A, h, k => by
    obtain ⟨p, vs, h1, h2, r⟩ := h
    exact Rels.pl_nil r k
  | .lst true ds, v, A, h, k => by
    rw [D.pl] at k
    cases k
  | .lst false ds, v, A, h, k => by
    obtain ⟨p, vs, h0, h1, h2, r⟩ := h
    exact h2
  | .dct true ks ds, v, A, h, k => by
    rw [D.pl] at k
    cases k
  | .dct false ks ds, v, A, h, k => by
    obtain ⟨p, vs, h0, h1, h3, h2, r⟩ := h
    exact h2
  | .scr _, v, A, h, k => by obtain ⟨p, h0, h1, h2⟩ := h; exact h2
  | .tok _, v, A, h, k => by obtain ⟨p, h0, h1, h2⟩ := h; exact h2
  | .tex _ _, v, A, h, k => by obtain ⟨p, h0, h1, h2⟩ := h; exact h2
theorem Rels.pl_nil : ∀ {ds : List D} {vs : List V} {A : List Addr}, Rels c F H ds vs A → D.pls ds = true → A = []
  | [], vs, A, h, k => h.2
  | d :: ds, vs, A, h, k => by
    obtain ⟨v, us, B, C, h0, rfl, h1, h2⟩ := h
    rw [D.pls, Bool.and_eq_true] at k
    rw [Rel.pl_nil h1 k.1, Rels.pl_nil h2 k.2]
    rfl
end
mutual
theorem Rel.ctx {c' : Ctx} (hK : c'.K = c.K) : ∀ {d : D} {v : V} {A : List Addr}, Rel c F H d v A → d.nk = true → Rel c' F H d v A
  | .un, v, A, h, k => h.elim
  | .non, v, A, h, k => h
  | .bl _, v, A, h, k => h
  | .int _, v, A, h, k => h
  | .str _, v, A, h, k => h
  | .tup ds, v, A, h, k => by
    obtain ⟨p, vs, h1, h2, r⟩ := h
    exact ⟨p, vs, h1, by rw [hK]; exact h2, Rels.ctx hK r k⟩
  | .lst true ds, v, A, h, k => by
    obtain ⟨p, vs, B, h0, h1, h2, h3, r⟩ := h
    exact ⟨p, vs, B, h0, h1, h2, h3, Rels.ctx hK r k⟩
  | .lst false ds, v, A, h, k => by
    obtain ⟨p, vs, h0, h1, h2, r⟩ := h
    exact ⟨p, vs, h0, h1, h2, Rels.ctx hK r k⟩
  | .dct true ks ds, v, A, h, k => by
    obtain ⟨p, vs, B, h0, h1, h3, h2, h4, r⟩ := h
    exact ⟨p, vs, B, h0, h1, h3, h2, h4, Rels.ctx hK r k⟩
  | .dct false ks ds, v, A, h, k => by
    obtain ⟨p, vs, h0, h1, h3, h2, r⟩ := h
    exact ⟨p, vs, h0, h1, h3, h2, Rels.ctx hK r k⟩
  | .scr _, v, A, h, k => by obtain ⟨p, h0, h1, h2⟩ := h; exact ⟨p, h0, by rw [hK]; exact h1, h2⟩
  | .tok _, v, A, h, k => by rw [D.nk] at k; cases k
  | .tex _ _, v, A, h, k => by rw [D.nk] at k; cases k
theorem Rels.ctx {c' : Ctx} (hK : c'.K = c.K) : ∀ {ds : List D} {vs : List V} {A : List Addr}, Rels c F H ds vs A → D.nks ds = true → Rels c' F H ds vs A
  | [], vs, A, h, k => h
  | d :: ds, vs, A, h, k => by
    obtain ⟨v, us, B, C, h0, h3, h1, h2⟩ := h
    rw [D.nks, Bool.and_eq_true] at k
    exact ⟨v, us, B, C, h0, h3, Rel.ctx hK h1 k.1, Rels.ctx hK h2 k.2⟩
end
mutual
theorem Rel.ctxG {c' : Ctx} (hK : c'.K = c.K) (hG : c'.G = c.G) : ∀ {d : D} {v : V} {A : List Addr}, Rel c F H d v A → Rel c' F H d v A
  | .un, v, A, h => h.elim
  | .non, v, A, h => h
  | .bl _, v, A, h => h
  | .int _, v, A, h => h
  | .str _, v, A, h => h
  | .tup ds, v, A, h => by
    obtain ⟨p, vs, h1, h2, r⟩ := h
    exact ⟨p, vs, h1, by rw [hK]; exact h2, Rels.ctxG hK hG r⟩
  | .lst true ds, v, A, h => by
    obtain ⟨p, vs, B, h0, h1, h2, h3, r⟩ := h
    exact ⟨p, vs, B, h0, h1, h2, h3, Rels.ctxG hK hG r⟩
  | .lst false ds, v, A, h => by
    obtain ⟨p, vs, h0, h1, h2, r⟩ := h
    exact ⟨p, vs, h0, h1, h2, Rels.ctxG hK hG r⟩
  | .dct true ks ds, v, A, h => by
    obtain ⟨p, vs, B, h0, h1, h3, h2, h4, r⟩ := h
    exact ⟨p, vs, B, h0, h1, h3, h2, h4, Rels.ctxG hK hG r⟩
  | .dct false ks ds, v, A, h => by
    obtain ⟨p, vs, h0, h1, h3, h2, r⟩ := h
    exact ⟨p, vs, h0, h1, h3, h2, Rels.ctxG hK hG r⟩
  | .scr _, v, A, h => by obtain ⟨p, h0, h1, h2⟩ := h; exact ⟨p, h0, by rw [hK]; exact h1, h2⟩
  | .tok _, v, A, h => by obtain ⟨f, h0, h1, h2⟩ := h; exact ⟨f, h0, by rw [hG]; exact h1, h2⟩
  | .tex _ _, v, A, h => by obtain ⟨f, h0, h1, h2⟩ := h; exact ⟨f, h0, by rw [hG]; exact h1, h2⟩
theorem Rels.ctxG {c' : Ctx} (hK : c'.K = c.K) (hG : c'.G = c.G) : ∀ {ds : List D} {vs : List V} {A : List Addr}, Rels c F H ds vs A → Rels c' F H ds vs A
  | [], vs, A, h => h
  | d :: ds, vs, A, h => by
    obtain ⟨v, us, B, C, h0, h3, h1, h2⟩ := h
    exact ⟨v, us, B, C, h0, h3, Rel.ctxG hK hG h1, Rels.ctxG hK hG h2⟩
end
/-- plain data stay whatever H does -/
theorem Rel.any {d : D} {v : V} {A : List Addr} (h : Rel c F H d v A) (k : d.pl = true) (e : ∀ b o, F b = some o → F' b = some o) : Rel c F' H' d v [] := by
  have z := h.pl_nil k
  subst z
  exact Rel.mono e h fun b hb => by cases hb
theorem Rels.any {ds : List D} {vs : List V} {A : List Addr} (h : Rels c F H ds vs A) (k : D.pls ds = true) (e : ∀ b o, F b = some o → F' b = some o) : Rels c F' H' ds vs [] := by
  have z := h.pl_nil k
  subst z
  exact Rels.mono e h fun b hb => by cases hb

/-! ### what a step may do -/
/-- nothing stands there (a table of code objects at most) -/
def NT (H : Hp) (b : Addr) : Prop := ∀ o, H b = some o → ∃ ps, o = .tbl ps
theorem NT.of {H : Hp} {b : Addr} (h : H b = none) : NT H b := fun o e => by
  rw [h] at e
  cases e
structure Go (F H : Hp) (S : List Addr) (F' H' : Hp) (S' : List Addr) : Prop where
  f : ∀ b o, F b = some o → F' b = some o
  h : ∀ b o, H b = some o → (∀ ps, o ≠ .tbl ps) → b ∉ S → H' b = some o
  s : ∀ b ∈ S', b ∈ S ∨ NT H b
  n : ∀ b o, F' b = some o → F b = some o ∨ b ∈ S ∨ NT H b
theorem Go.refl {S : List Addr} : Go F H S F H S := ⟨fun _ _ h => h, fun _ _ h _ _ => h, fun _ h => .inl h, fun _ _ h => .inl h⟩
section
variable {F1 H1 F2 H2 : Hp} {S S1 S2 A B : List Addr}
theorem Go.fresh (a : Go F H S F1 H1 B) {x : Addr} (n : NT H1 x) : x ∈ S ∨ NT H x := by
  by_cases hx : x ∈ S
  · exact .inl hx
  · refine .inr fun o e => ?_
    by_cases ht : ∃ ps, o = .tbl ps
    · exact ht
    · exact n o (a.h x o e (fun ps z => ht ⟨ps, z⟩) hx)
/-- a step, then a step of what is left beside some things in hand -/
theorem Go.trans (a : Go F H S F1 H1 (A ++ S1)) (b : Go F1 H1 S1 F2 H2 B) : Go F H S F2 H2 (A ++ B) := by
  have no : ∀ x o, H x = some o → (∀ ps, o ≠ .tbl ps) → x ∉ S → x ∉ S1 := fun x o h ht hx z => by
    rcases a.s x (List.mem_append_right _ z) with z | z
    · exact hx z
    · obtain ⟨ps, e⟩ := z o h
      exact ht ps e
  refine ⟨fun x o h => b.f x o (a.f x o h), fun x o h ht hx => b.h x o (a.h x o h ht hx) ht (no x o h ht hx), fun x hx => ?_, fun x o h => ?_⟩
  · rcases List.mem_append.mp hx with hx | hx
    · exact a.s x (List.mem_append_left _ hx)
    · rcases b.s x hx with z | z
      · exact a.s x (List.mem_append_right _ z)
      · exact a.fresh z
  · rcases b.n x o h with z | z | z
    · exact a.n x o z
    · exact .inr (a.s x (List.mem_append_right _ z))
    · exact .inr (a.fresh z)
theorem Go.trans0 (a : Go F H S F1 H1 S1) (b : Go F1 H1 S1 F2 H2 B) : Go F H S F2 H2 B := Go.trans (A := []) a b
/-- fewer things are claimed behind it -/
theorem Go.less (a : Go F H S F1 H1 A) (h : ∀ b ∈ B, b ∈ A) : Go F H S F1 H1 B := ⟨a.f, a.h, fun b hb => a.s b (h b hb), a.n⟩
/-- what is in hand stays while the rest goes on -/
theorem Go.hand (b : Go F1 H1 S1 F2 H2 B) (own : ∀ x ∈ A, F1 x = none ∧ ∃ o, H1 x = some o ∧ ∀ ps, o ≠ .tbl ps) (nd : (A ++ S1).Nodup) : ∀ x ∈ A, H2 x = H1 x ∧ F2 x = none ∧ x ∉ B := by
  intro x hx
  obtain ⟨h1, o, h2, h3⟩ := own x hx
  have ns : x ∉ S1 := fun z => (List.nodup_append.mp nd).2.2 x hx x z rfl
  have nn : ¬ NT H1 x := fun z => by
    obtain ⟨ps, e⟩ := z o h2
    exact h3 ps e
  refine ⟨(b.h x o h2 h3 ns).trans h2.symm, ?_, fun z => (b.s x z).elim ns nn⟩
  cases e : F2 x with
  | none => rfl
  | some u =>
    rcases b.n x u e with z | z | z
    · rw [h1] at z
      cases z
    · exact absurd z ns
    · exact absurd z nn
theorem Rel.hand {d : D} {v : V} (r : Rel c F1 H1 d v A) (b : Go F1 H1 S1 F2 H2 B) (nd : (A ++ S1).Nodup) : Rel c F2 H2 d v A :=
  Rel.mono b.f r fun x hx => let ⟨h1, h2, _⟩ := b.hand r.owned nd x hx; ⟨h1, h2⟩
theorem Rels.hand {ds : List D} {vs : List V} (r : Rels c F1 H1 ds vs A) (b : Go F1 H1 S1 F2 H2 B) (nd : (A ++ S1).Nodup) : Rels c F2 H2 ds vs A :=
  Rels.mono b.f r fun x hx => let ⟨h1, h2, _⟩ := b.hand r.owned nd x hx; ⟨h1, h2⟩
theorem nodup_hand (b : Go F1 H1 S1 F2 H2 B) (own : ∀ x ∈ A, F1 x = none ∧ ∃ o, H1 x = some o ∧ ∀ ps, o ≠ .tbl ps) (nd : (A ++ S1).Nodup) (nb : B.Nodup) : (A ++ B).Nodup :=
  List.nodup_append.mpr ⟨(List.nodup_append.mp nd).1, nb, fun x hx y hy z => by subst z; exact (b.hand own nd x hx).2.2 hy⟩
end

/-! ### the slots -/
def SlotR (c : Ctx) (F H : Hp) (x : Option V) : D → List Addr → Prop
  | .un, A => A = []
  | d, A => ∃ v, x = some v ∧ Rel c F H d v A
def Slots (c : Ctx) (F H : Hp) : L2.St → List D → List Addr → Prop
  | [], [], S => S = []
  | x :: σ, d :: τ, S => ∃ A B, S = A ++ B ∧ SlotR c F H x d A ∧ Slots c F H σ τ B
  | _, _, _ => False
/-- the tables of code objects, the code objects that closures lean on -/
structure Tb (c : Ctx) (H : Hp) : Prop where
  tabs : LamX.Tabs c.T H
  code : ∀ p ∈ c.CB, H p.1 = some (LamX.CodeO p.1 p.2)
theorem Tb.ext {c : Ctx} {H H' : Hp} (t : Tb c H) (e : ∀ b o, H b = some o → H' b = some o) : Tb c H' := ⟨t.tabs.ext e, fun p hp => e _ _ (t.code p hp)⟩
structure SA (c : Ctx) (F H : Hp) (σ : L2.St) (τ : List D) (S : List Addr) : Prop where
  ex : ∀ b o, F b = some o → H b = some o
  nt : ∀ b ps, F b ≠ some (.tbl ps)
  fb : ∀ b o, c.FB b = some o → F b = some o
  tb : Tb c H
  sl : Slots c F H σ τ S
  nd : S.Nodup
  fx : ∀ i, c.fx i = true → σ[i]? = c.σ0[i]?

theorem slotR_un {x : Option V} {A : List Addr} (h : SlotR c F H x .un A) : A = [] := h
theorem slotR_of {x : Option V} {d : D} {A : List Addr} (h : SlotR c F H x d A) : (d = .un ∧ A = []) ∨ ∃ v, x = some v ∧ Rel c F H d v A := by
  cases d with
  | un => exact .inl ⟨rfl, h⟩
  | _ => exact .inr h
theorem slotR_mk {d : D} {v : V} {A : List Addr} (h : Rel c F H d v A) : SlotR c F H (some v) d A := by
  cases d with
  | un => exact h.elim
  | _ => exact ⟨v, rfl, h⟩
theorem SlotR.owned {x : Option V} {d : D} {A : List Addr} (h : SlotR c F H x d A) : ∀ b ∈ A, F b = none ∧ ∃ o, H b = some o ∧ ∀ ps, o ≠ .tbl ps := by
  rcases slotR_of h with ⟨_, rfl⟩ | ⟨v, _, r⟩
  · intro b z
    cases z
  · exact r.owned
theorem SlotR.mono (e : ∀ b o, F b = some o → F' b = some o) {x : Option V} {d : D} {A : List Addr} (h : SlotR c F H x d A) (k : ∀ b ∈ A, H' b = H b ∧ F' b = none) : SlotR c F' H' x d A := by
  rcases slotR_of h with ⟨rfl, rfl⟩ | ⟨v, rfl, r⟩
  · rfl
  · exact slotR_mk (Rel.mono e r k)
theorem Slots.length : ∀ {σ : L2.St} {τ : List D} {S : List Addr}, Slots c F H σ τ S → σ.length = τ.length
  | [], [], S, h => rfl
  | x :: σ, d :: τ, S, h => by
    obtain ⟨A, B, _, _, r⟩ := h
    simp [Slots.length r]
theorem Slots.owned : ∀ {σ : L2.St} {τ : List D} {S : List Addr}, Slots c F H σ τ S → ∀ b ∈ S, F b = none ∧ ∃ o, H b = some o ∧ ∀ ps, o ≠ .tbl ps
  | [], [], S, h => by
    have z : S = [] := h
    subst z
    intro b z
    cases z
  | x :: σ, d :: τ, S, h => by
    obtain ⟨A, B, rfl, r, h⟩ := h
    intro b z
    rcases List.mem_append.mp z with z | z
    · exact r.owned b z
    · exact Slots.owned h b z
theorem Slots.noExt : ∀ {σ : L2.St} {τ : List D} {S : List Addr}, Slots c F H σ τ S → ∀ b ∈ S, ∀ φ, H b ≠ some (.ext φ)
  | [], [], S, h => by
    have z : S = [] := h
    subst z
    intro b z
    cases z
  | x :: σ, d :: τ, S, h => by
    obtain ⟨A, B, rfl, r, h⟩ := h
    intro b z
    rcases List.mem_append.mp z with z | z
    · rcases slotR_of r with ⟨_, rfl⟩ | ⟨v, _, r⟩
      · cases z
      · exact r.noExt b z
    · exact Slots.noExt h b z
theorem Slots.mono (e : ∀ b o, F b = some o → F' b = some o) : ∀ {σ : L2.St} {τ : List D} {S : List Addr}, Slots c F H σ τ S → (∀ b ∈ S, H' b = H b ∧ F' b = none) → Slots c F' H' σ τ S
  | [], [], S, h, k => h
  | x :: σ, d :: τ, S, h, k => by
    obtain ⟨A, B, rfl, r, h⟩ := h
    exact ⟨A, B, rfl, r.mono e fun b hb => k b (List.mem_append_left _ hb), Slots.mono e h fun b hb => k b (List.mem_append_right _ hb)⟩
theorem SlotR.ctxG {c' : Ctx} (hK : c'.K = c.K) (hG : c'.G = c.G) {x : Option V} {d : D} {A : List Addr} (h : SlotR c F H x d A) : SlotR c' F H x d A := by
  rcases slotR_of h with ⟨rfl, rfl⟩ | ⟨v, rfl, r⟩
  · rfl
  · exact slotR_mk (Rel.ctxG hK hG r)
theorem Slots.ctxG {c' : Ctx} (hK : c'.K = c.K) (hG : c'.G = c.G) : ∀ {σ : L2.St} {τ : List D} {S : List Addr}, Slots c F H σ τ S → Slots c' F H σ τ S
  | [], [], S, h => h
  | x :: σ, d :: τ, S, h => by
    obtain ⟨A, B, rfl, r, h⟩ := h
    exact ⟨A, B, rfl, r.ctxG hK hG, Slots.ctxG hK hG h⟩
/-- one slot apart -/
theorem Slots.at : ∀ {σ : L2.St} {τ : List D} {S : List Addr} {i : Nat} {d : D}, Slots c F H σ τ S → τ[i]? = some d →
    ∃ x A B1 B2, σ[i]? = some x ∧ S = B1 ++ (A ++ B2) ∧ SlotR c F H x d A ∧
      ∀ (F' H' : Hp) (x' : Option V) (d' : D) (A' : List Addr), (∀ b o, F b = some o → F' b = some o) → (∀ b ∈ B1 ++ B2, H' b = H b ∧ F' b = none) → SlotR c F' H' x' d' A' → Slots c F' H' (σ.set i x') (τ.set i d') (B1 ++ (A' ++ B2))
  | [], [], S, i, d, h, e => by simp at e
  | x :: σ, d0 :: τ, S, 0, d, h, e => by
    obtain ⟨A, B, rfl, r, h⟩ := h
    have e' : d0 = d := by simpa using e
    subst e'
    exact ⟨x, A, [], B, rfl, rfl, r, fun F' H' x' d' A' m k r' => ⟨A', B, rfl, r', Slots.mono m h k⟩⟩
  | x :: σ, d0 :: τ, S, i + 1, d, h, e => by
    obtain ⟨A, B, rfl, r, h⟩ := h
    obtain ⟨y, A1, B1, B2, e1, rfl, r1, k1⟩ := Slots.at (i := i) (d := d) h (by simpa using e)
    refine ⟨y, A1, A ++ B1, B2, by simpa using e1, by simp, r1, fun F' H' x' d' A' m k r' => ⟨A, B1 ++ (A' ++ B2), by simp, r.mono m fun b hb => k b (by simp [hb]), k1 F' H' x' d' A' m (fun b hb => k b ?_) r'⟩⟩
    rcases List.mem_append.mp hb with hb | hb
    · simp [hb]
    · simp [hb]
section
variable {σ : L2.St} {τ : List D} {S : List Addr}
theorem SA.owned (h : SA c F H σ τ S) : ∀ b ∈ S, F b = none ∧ ∃ o, H b = some o ∧ ∀ ps, o ≠ .tbl ps := h.sl.owned

/-- a growing: nothing is changed, some things are new; N: those that are owned -/
structure Grow (F H F' H' : Hp) (N : List Addr) : Prop where
  f : ∀ b o, F b = some o → F' b = some o
  h : ∀ b o, H b = some o → H' b = some o
  e : ∀ b o, F' b = some o → H' b = some o
  n : ∀ b o, F' b = some o → F b = some o ∨ H b = none
  s : ∀ b ∈ N, H b = none
  nd : N.Nodup
  q : ∀ b ps, F' b = some (.tbl ps) → F b = some (.tbl ps)
theorem Grow.refl (e : ∀ b o, F b = some o → H b = some o) : Grow F H F H [] := ⟨fun _ _ h => h, fun _ _ h => h, e, fun _ _ h => .inl h, fun b z => (by cases z), List.nodup_nil, fun _ _ h => h⟩
theorem Grow.go {N : List Addr} (g : Grow F H F' H' N) (S : List Addr) : Go F H S F' H' (N ++ S) :=
  ⟨g.f, fun b o h _ _ => g.h b o h, fun b hb => (List.mem_append.mp hb).elim (fun z => .inr (NT.of (g.s b z))) .inl, fun b o h => (g.n b o h).elim .inl fun z => .inr (.inr (NT.of z))⟩
theorem Grow.keep {N : List Addr} (g : Grow F H F' H' N) {A : List Addr} (own : ∀ x ∈ A, F x = none ∧ ∃ o, H x = some o ∧ ∀ ps, o ≠ .tbl ps) : ∀ b ∈ A, H' b = H b ∧ F' b = none := fun b hb => by
  obtain ⟨h1, o, h2, _⟩ := own b hb
  refine ⟨(g.h b o h2).trans h2.symm, ?_⟩
  cases e : F' b with
  | none => rfl
  | some u =>
    rcases g.n b u e with z | z
    · rw [h1] at z
      cases z
    · rw [h2] at z
      cases z
theorem Grow.sa {N : List Addr} (g : Grow F H F' H' N) (h : SA c F H σ τ S) : SA c F' H' σ τ S ∧ (N ++ S).Nodup := by
  refine ⟨⟨g.e, fun b ps z => h.nt b ps (g.q b ps z), fun b o z => g.f b o (h.fb b o z), h.tb.ext g.h, Slots.mono g.f h.sl (g.keep h.owned), h.nd, h.fx⟩, List.nodup_append.mpr ⟨g.nd, h.nd, fun x hx y hy z => ?_⟩⟩
  subst z
  obtain ⟨_, o, h2, _⟩ := h.owned x hy
  rw [g.s x hx] at h2
  cases h2
theorem Grow.rel {N : List Addr} (g : Grow F H F' H' N) {d : D} {v : V} {A : List Addr} (r : Rel c F H d v A) : Rel c F' H' d v A := Rel.mono g.f r (g.keep r.owned)
theorem Grow.rels {N : List Addr} (g : Grow F H F' H' N) {d : List D} {v : List V} {A : List Addr} (r : Rels c F H d v A) : Rels c F' H' d v A := Rels.mono g.f r (g.keep r.owned)
theorem Grow.trans {F1 H1 F2 H2 : Hp} {N M : List Addr} (a : Grow F H F1 H1 N) (b : Grow F1 H1 F2 H2 M) : Grow F H F2 H2 M := by
  have no : ∀ x, H1 x = none → H x = none := fun x n => by
    cases e : H x with
    | none => rfl
    | some o =>
      rw [a.h x o e] at n
      cases n
  exact ⟨fun x o h => b.f x o (a.f x o h), fun x o h => b.h x o (a.h x o h), b.e, fun x o h => (b.n x o h).elim (a.n x o) fun z => .inr (no x z), fun x hx => no x (b.s x hx), b.nd, fun x ps h => a.q x ps (b.q x ps h)⟩
/-- a new owned object -/
theorem grow_own {p : Addr} {o : HO} (e : ∀ b u, F b = some u → H b = some u) (hp : H p = none) : Grow F H F (upd H p o) [p] := by
  refine ⟨fun _ _ h => h, fun b u h => ?_, fun b u h => ?_, fun _ _ h => .inl h, fun b hb => ?_, by simp, fun _ _ h => h⟩
  · rw [upd_ne (ne_of_none h hp)]
    exact h
  · rw [upd_ne (ne_of_none (e b u h) hp)]
    exact e b u h
  · rw [List.mem_singleton.mp hb]
    exact hp
/-- a new frozen object -/
theorem grow_frz {p : Addr} {o : HO} (e : ∀ b u, F b = some u → H b = some u) (hp : H p = none) (ht : ∀ ps, o ≠ .tbl ps) : Grow F H (upd F p o) (upd H p o) [] := by
  refine ⟨fun b u h => ?_, fun b u h => ?_, fun b u h => ?_, fun b u h => ?_, fun b z => (by cases z), List.nodup_nil, fun b ps h => ?_⟩
  · rw [upd_ne (ne_of_none (e b u h) hp)]
    exact h
  · rw [upd_ne (ne_of_none h hp)]
    exact h
  · by_cases hb : b = p
    · subst hb
      rw [upd_same] at h ⊢
      exact h
    · rw [upd_ne hb] at h ⊢
      exact e b u h
  · by_cases hb : b = p
    · subst hb
      exact .inr hp
    · rw [upd_ne hb] at h
      exact .inl h
  · by_cases hb : b = p
    · subst hb
      rw [upd_same] at h
      exact absurd (Option.some.inj h) (ht ps)
    · rw [upd_ne hb] at h
      exact h
end
end
end Y
end

section
set_option Elab.async false
set_option linter.all false
set_option maxRecDepth 100000
set_option maxHeartbeats 4000000
/-! Y1: results, the judgement of expressions, operators, displays. -/
namespace Y
open PySem PySem.Spec PyProof.Rows L2

/-- an operand: a slot that is only looked at, or a value -/
inductive Hdl where
  | slot (i : Nat) | val (d : D)
def Hdl.get (τ : List D) : Hdl → D
  | .slot i => (τ[i]?).getD .un
  | .val d => d
inductive Rz (α : Type) where
  | ok (a : α) (τ : List D) | ex (n : Str) (d : D) (τ : List D) | bad
def Rz.bind {α β : Type} : Rz α → (α → List D → Rz β) → Rz β
  | .ok a τ, f => f a τ
  | .ex n d τ, _ => .ex n d τ
  | .bad, _ => .bad
abbrev Den (α : Type) := List D → Rz α

/-- a raised error of the class n, which keeps d -/
def ExP (c : Ctx) (F H : Hp) (n : Str) (d : D) (cv : Value) (dx : Option Addr) : Prop :=
  ∃ C a v, c.mg n = some (.ref C) ∧ cv = .ref C ∧ dx = some a ∧ F a = some (.xd [(("what" : Str), v)]) ∧ Rel c F H d v []
def RelH (c : Ctx) (F H : Hp) (σ : L2.St) (h : Hdl) (v : V) (A : List Addr) : Prop :=
  match h with
  | .slot i => σ[i]? = some (some v) ∧ A = []
  | .val d => Rel c F H d v A
def RelHs (c : Ctx) (F H : Hp) (σ : L2.St) : List Hdl → List V → List Addr → Prop
  | [], vs, A => vs = [] ∧ A = []
  | h :: hs, vs, A => ∃ v ws B C, vs = v :: ws ∧ A = B ++ C ∧ RelH c F H σ h v B ∧ RelHs c F H σ hs ws C

/-- what an end gives -/
def Post {α β : Type} (c : Ctx) (R : Hp → Hp → α → β → List Addr → Prop) (W : WX) (F H : Hp) (σ : L2.St) (S : List Addr) (Q : β → Hp → Prop) : Rz α → Prop
  | .ok a τ' => ∀ v F' H' A S', Go F H S F' H' (A ++ S') → SA c F' H' σ τ' S' → R F' H' a v A → (A ++ S').Nodup → Q v H'
  | .ex n d τ' => ∀ cv dx F' H' S', Go F H S F' H' S' → SA c F' H' σ τ' S' → ExP c F' H' n d cv dx → W cv dx σ H'
  | .bad => False
def tE (c : Ctx) (f : Den Hdl) (W : WX) : TE := fun σ H Q => ∃ τ F S, SA c F H σ τ S ∧ Post c (fun F H => RelH c F H σ) W F H σ S Q (f τ)
def tA (c : Ctx) (f : Den (List Hdl)) (W : WX) : TA := fun σ H Q => ∃ τ F S, SA c F H σ τ S ∧ Post c (fun F H => RelHs c F H σ) W F H σ S Q (f τ)
def tT (c : Ctx) (f : Den Bool) (W : WX) : TT := fun σ H Q => ∃ τ F S, SA c F H σ τ S ∧ Post c (fun _ _ (a : Bool) b A => b = a ∧ A = []) W F H σ S Q (f τ)
/-- the expression e computes f -/
structure Tr (X : Cx) (c : Ctx) (e : Expr) (f : Den Hdl) : Prop where
  pe : ∀ W, Takes X W → PE X e (tE c f W)
structure TrA (X : Cx) (c : Ctx) (es : List Expr) (f : Den (List Hdl)) : Prop where
  pa : ∀ W, Takes X W → PA X es (tA c f W)
structure TrT (X : Cx) (c : Ctx) (e : Expr) (f : Den Bool) : Prop where
  pt : ∀ W, Takes X W → PT X e (tT c f W)
theorem pe_mono {X : Cx} {e : Expr} {t t' : TE} (h : PE X e t) (k : ∀ σ H Q, t' σ H Q → t σ H Q) : PE X e t' := ⟨fun pins s σ H Q I q => h.run pins s σ H Q I (k σ H Q q)⟩
theorem pa_mono {X : Cx} {e : List Expr} {t t' : TA} (h : PA X e t) (k : ∀ σ H Q, t' σ H Q → t σ H Q) : PA X e t' := ⟨fun pos pins s σ H Q I q => h.run pos pins s σ H Q I (k σ H Q q)⟩
theorem pt_mono {X : Cx} {e : Expr} {t t' : TT} (h : PT X e t) (k : ∀ σ H Q, t' σ H Q → t σ H Q) : PT X e t' := ⟨fun pins s σ H Q I q => h.run pins s σ H Q I (k σ H Q q)⟩

section
variable {c : Ctx} {F H F1 H1 F2 H2 : Hp} {σ : L2.St} {τ τ1 : List D} {S S1 A B : List Addr} {W : WX}
/-- from a state behind a step on -/
theorem Post.step {α β : Type} {R : Hp → Hp → α → β → List Addr → Prop} {Q : β → Hp → Prop} (g : Go F H S F1 H1 (A ++ S1)) :
    ∀ {r : Rz α}, Post c R W F H σ S Q r → Post c (fun F' H' a v B => R F' H' a v B) W F1 H1 σ S1 Q r
  | .ok a τ', h => fun v F' H' B S' go sa r nd => h v F' H' B S' (Go.less (Go.trans g go) fun b hb => List.mem_append_right _ hb) sa r nd
  | .ex n d τ', h => fun cv dx F' H' S' go sa x => h cv dx F' H' S' (Go.less (Go.trans g go) fun b hb => List.mem_append_right _ hb) sa x
  | .bad, h => h
theorem RelH.hand {h : Hdl} {v : V} (r : RelH c F1 H1 σ h v A) (b : Go F1 H1 S1 F2 H2 B) (nd : (A ++ S1).Nodup) : RelH c F2 H2 σ h v A := by
  cases h with
  | slot i => exact r
  | val d => exact Rel.hand r b nd
theorem RelH.owned {h : Hdl} {v : V} (r : RelH c F H σ h v A) : ∀ b ∈ A, F b = none ∧ ∃ o, H b = some o ∧ ∀ ps, o ≠ .tbl ps := by
  cases h with
  | slot i =>
    obtain ⟨_, rfl⟩ := r
    intro b z
    cases z
  | val d => exact Rel.owned r
theorem RelHs.owned : ∀ {h : List Hdl} {v : List V} {A : List Addr}, RelHs c F H σ h v A → ∀ b ∈ A, F b = none ∧ ∃ o, H b = some o ∧ ∀ ps, o ≠ .tbl ps
  | [], v, A, h => by obtain ⟨_, rfl⟩ := h; intro b z; cases z
  | d :: ds, vs, A, h => by
    obtain ⟨v, us, B, C, _, rfl, h1, h2⟩ := h
    intro b z
    rcases List.mem_append.mp z with z | z
    · exact RelH.owned h1 b z
    · exact RelHs.owned h2 b z
/-- what an operand is worth now -/
theorem RelH.get {h : Hdl} {v : V} (r : RelH c F H σ h v A) (sa : SA c F H σ τ S) : h.get τ = .un ∨ ∃ B, Rel c F H (h.get τ) v B := by
  cases h with
  | val d => exact .inr ⟨A, r⟩
  | slot i =>
    obtain ⟨e, rfl⟩ := r
    cases hi : τ[i]? with
    | none =>
      left
      show (τ[i]?).getD .un = .un
      rw [hi]
      rfl
    | some d =>
      obtain ⟨x, A, B1, B2, e1, _, r1, _⟩ := Slots.at sa.sl hi
      rw [e] at e1
      cases e1
      have ed : Hdl.get τ (.slot i) = d := by
        show (τ[i]?).getD .un = d
        rw [hi]
        rfl
      rw [ed]
      rcases slotR_of r1 with ⟨z, _⟩ | ⟨v', z, r'⟩
      · exact .inl z
      · cases z
        exact .inr ⟨A, r'⟩
/-- an end that has grown -/
theorem Post.grow {β : Type} {α : Type} {R : Hp → Hp → α → β → List Addr → Prop} {Q : β → Hp → Prop} {a : α} (sa : SA c F H σ τ S) (h : Post c R W F H σ S Q (.ok a τ)) {v : β} {F' H' : Hp} {N : List Addr} (g : Grow F H F' H' N) (r : R F' H' a v N) : Q v H' :=
  let ⟨s1, nd⟩ := g.sa sa
  h v F' H' N S (g.go S) s1 r nd

/-! ### names, constants -/
def nm (i : Nat) : Den Hdl := fun τ => match τ[i]? with
  | some .un => .bad
  | some _ => .ok (.slot i) τ
  | none => .bad
/-- the value of a name, which owns nothing from now on -/
def vl (i : Nat) : Den Hdl := fun τ => match τ[i]? with
  | some .un => .bad
  | some d => .ok (.val d.frz) (τ.set i d.frz)
  | none => .bad
def cst (d : D) : Den Hdl := fun τ => .ok (.val d) τ
theorem set_same {α : Type} : ∀ {l : List α} {i : Nat} {x : α}, l[i]? = some x → l.set i x = l
  | [], _, _, h => by simp at h
  | a :: l, 0, x, h => by
    have e : a = x := by simpa using h
    subst e
    rfl
  | a :: l, i + 1, x, h => by
    have e := set_same (l := l) (i := i) (x := x) (by simpa using h)
    show a :: l.set i x = a :: l
    rw [e]
/-- what a slot owns is given up -/
theorem SA.freeze (sa : SA c F H σ τ S) {i : Nat} {d : D} (hi : τ[i]? = some d) (hd : d ≠ .un) : ∃ F' S' v, Go F H S F' H S' ∧ SA c F' H σ (τ.set i d.frz) S' ∧ σ[i]? = some (some v) ∧ Rel c F' H d.frz v [] := by
  obtain ⟨x, A, B1, B2, e1, rfl, r1, k⟩ := Slots.at sa.sl hi
  rcases slotR_of r1 with ⟨z, _⟩ | ⟨v, rfl, r⟩
  · exact absurd z hd
  have own := r.owned
  have hF : ∀ b o, F b = some o → (fun b => if b ∈ A then H b else F b) b = some o := fun b o h => by
    show (if b ∈ A then H b else F b) = some o
    by_cases hb : b ∈ A
    · rw [(own b hb).1] at h
      cases h
    · rw [if_neg hb]
      exact h
  have nd := sa.nd
  have r' : Rel c (fun b => if b ∈ A then H b else F b) H d.frz v [] := Rel.froze hF r fun b hb => if_pos hb
  refine ⟨fun b => if b ∈ A then H b else F b, B1 ++ B2, v, ⟨hF, fun b o h _ _ => h, fun b hb => .inl ?_, fun b o h => ?_⟩, ⟨fun b o h => ?_, fun b ps h => ?_, fun b o h => hF b o (sa.fb b o h), sa.tb, ?_, ?_, sa.fx⟩, e1, r'⟩
  · rcases List.mem_append.mp hb with z | z
    · exact List.mem_append_left _ z
    · exact List.mem_append_right _ (List.mem_append_right _ z)
  · have h : (if b ∈ A then H b else F b) = some o := h
    by_cases hb : b ∈ A
    · exact .inr (.inl (List.mem_append_right _ (List.mem_append_left _ hb)))
    · rw [if_neg hb] at h
      exact .inl h
  · have h : (if b ∈ A then H b else F b) = some o := h
    by_cases hb : b ∈ A
    · rw [if_pos hb] at h
      exact h
    · rw [if_neg hb] at h
      exact sa.ex b o h
  · have h : (if b ∈ A then H b else F b) = some (.tbl ps) := h
    by_cases hb : b ∈ A
    · rw [if_pos hb] at h
      obtain ⟨_, o, h2, h3⟩ := own b hb
      rw [h2] at h
      exact h3 ps (Option.some.inj h)
    · rw [if_neg hb] at h
      exact sa.nt b ps h
  · have q := k (fun b => if b ∈ A then H b else F b) H (some v) d.frz [] hF (fun b hb => ⟨rfl, ?_⟩) (slotR_mk r')
    · rw [set_same e1] at q
      simpa using q
    · have nb : b ∉ A := fun z => by
        have nd' := List.nodup_append.mp nd
        have nd2 := List.nodup_append.mp nd'.2.1
        rcases List.mem_append.mp hb with y | y
        · exact nd'.2.2 b y b (List.mem_append_left _ z) rfl
        · exact nd2.2.2 b z b y rfl
      show (if b ∈ A then H b else F b) = none
      rw [if_neg nb]
      refine (sa.owned b ?_).1
      rcases List.mem_append.mp hb with y | y
      · exact List.mem_append_left _ y
      · exact List.mem_append_right _ (List.mem_append_right _ y)
  · have nd' := List.nodup_append.mp nd
    have nd2 := List.nodup_append.mp nd'.2.1
    exact List.nodup_append.mpr ⟨nd'.1, nd2.2.1, fun x hx y hy => nd'.2.2 x hx y (List.mem_append_right _ hy)⟩
end

section
variable {X : Cx} {c : Ctx}
theorem t_nm (i : Nat) {x : Str} {pos : Pos} (hN : X.N[i]? = some x := by rfl) (hv : Vis X.env.scope x := by first | exact Or.inl rfl | exact Or.inr (Or.inl rfl) | exact Or.inr (Or.inr rfl)) (hd : (x == ("__debug__" : Str)) = false := by decide)
    (hcd : (x == ("__classdict__" : Str)) = false := by decide) : Tr X c (.Name x pos) (nm i) := by
  refine ⟨fun W _ => pe_mono (pe_var hN hv hd hcd) fun σ H Q h => ?_⟩
  obtain ⟨τ, F, S, sa, h⟩ := h
  unfold nm at h
  cases e : τ[i]? with
  | none => rw [e] at h; exact h.elim
  | some d =>
    rw [e] at h
    obtain ⟨x, A, B1, B2, e1, _, r1, _⟩ := Slots.at sa.sl e
    rcases slotR_of r1 with ⟨rfl, _⟩ | ⟨v, rfl, r⟩
    · exact h.elim
    · refine ⟨v, e1, ?_⟩
      have h' : Post c (fun F H => RelH c F H σ) W F H σ S Q (.ok (.slot i) τ) := by
        cases d <;> first | exact h | exact r.elim
      exact h' v F H [] S Go.refl sa ⟨e1, rfl⟩ sa.nd
theorem t_vl (i : Nat) {x : Str} {pos : Pos} (hN : X.N[i]? = some x := by rfl) (hv : Vis X.env.scope x := by first | exact Or.inl rfl | exact Or.inr (Or.inl rfl) | exact Or.inr (Or.inr rfl)) (hd : (x == ("__debug__" : Str)) = false := by decide)
    (hcd : (x == ("__classdict__" : Str)) = false := by decide) : Tr X c (.Name x pos) (vl i) := by
  refine ⟨fun W _ => pe_mono (pe_var hN hv hd hcd) fun σ H Q h => ?_⟩
  obtain ⟨τ, F, S, sa, h⟩ := h
  unfold vl at h
  cases e : τ[i]? with
  | none => rw [e] at h; exact h.elim
  | some d =>
    rw [e] at h
    have hn : d ≠ .un := fun z => by subst z; exact h.elim
    obtain ⟨F', S', v, g, sa', e1, r⟩ := sa.freeze e hn
    refine ⟨v, e1, ?_⟩
    have h' : Post c (fun F H => RelH c F H σ) W F H σ S Q (.ok (.val d.frz) (τ.set i d.frz)) := by
      cases d <;> first | exact h | exact (hn rfl).elim
    exact h' v F' H [] S' g sa' r sa'.nd
theorem tr_cst {e : Expr} {d : D} {v : V} (h : PE X e (tC v)) (r : ∀ F H, Rel c F H d v []) : Tr X c e (cst d) := by
  refine ⟨fun W _ => pe_mono h fun σ H Q h => ?_⟩
  obtain ⟨τ, F, S, sa, h⟩ := h
  exact h v F H [] S Go.refl sa (r F H) sa.nd
theorem t_int {i j pos} : Tr X c (.Constant (.int i) j pos) (cst (.int i)) := tr_cst pe_int fun _ _ => ⟨rfl, rfl⟩
theorem t_bl {b j pos} : Tr X c (.Constant (.bool b) j pos) (cst (.bl b)) := tr_cst pe_bl fun _ _ => ⟨rfl, rfl⟩
theorem t_non {j pos} : Tr X c (.Constant .none j pos) (cst .non) := tr_cst pe_non fun _ _ => ⟨rfl, rfl⟩
theorem t_str {x j pos} : Tr X c (.Constant (.str x) j pos) (cst (.str x)) := tr_cst pe_str fun _ _ => ⟨rfl, rfl⟩
/-- a module's int -/
theorem t_gint {x : Str} {i : Int} {t : Tok} {pos : Pos} (hm : X.mg x = some (.int i t)) (hg : Gl X x := by rfl) (hd : (x == ("__debug__" : Str)) = false := by decide) : Tr X c (.Name x pos) (cst (.int i)) :=
  tr_cst (v := .int i) (pe_glob hg hm ⟨t, rfl⟩ hd) fun _ _ => ⟨rfl, rfl⟩

/-! ### operators -/
def bin (g : D → D → Option D) (f1 f2 : Den Hdl) : Den Hdl := fun τ => (f1 τ).bind fun h1 τ1 => (f2 τ1).bind fun h2 τ2 => match g (h1.get τ2) (h2.get τ2) with
  | some d => .ok (.val d) τ2
  | none => .bad
def uno (g : D → Option D) (f : Den Hdl) : Den Hdl := fun τ => (f τ).bind fun h τ1 => match g (h.get τ1) with
  | some d => .ok (.val d) τ1
  | none => .bad
structure OpS (c : Ctx) (r : R2) (g : D → D → Option D) : Prop where
  un1 : ∀ y, g .un y = none
  un2 : ∀ x, g x .un = none
  run : ∀ {F H : Hp} {x y : V} {dx dy : D} {A B : List Addr} {d : D} {Q : VK}, (∀ b o, F b = some o → H b = some o) → Rel c F H dx x A → Rel c F H dy y B → g dx dy = some d →
    (∀ v F' H' N, Grow F H F' H' N → Rel c F' H' d v N → Q v H') → r x y H Q
structure UoS (c : Ctx) (r : V → Hp → VK → Prop) (g : D → Option D) : Prop where
  un1 : g .un = none
  run : ∀ {F H : Hp} {x : V} {dx : D} {A : List Addr} {d : D} {Q : VK}, (∀ b o, F b = some o → H b = some o) → Rel c F H dx x A → g dx = some d →
    (∀ v F' H' N, Grow F H F' H' N → Rel c F' H' d v N → Q v H') → r x H Q
theorem bin_sound {r : R2} {g : D → D → Option D} {f1 f2 : Den Hdl} {W : WX} (hs : OpS c r g) {σ : L2.St} {H : Hp} {Q : VK} (h : tE c (bin g f1 f2) W σ H Q) : tOp r (tE c f1 W) (tE c f2 W) σ H Q := by
  obtain ⟨τ, F, S, sa, h⟩ := h
  refine ⟨τ, F, S, sa, ?_⟩
  unfold bin at h
  cases e1 : f1 τ with
  | bad => rw [e1] at h; exact h
  | ex n d τ' => rw [e1] at h; exact h
  | ok h1 τ1 =>
    rw [e1] at h
    intro v1 F1 H1 A1 S1 g1 sa1 r1 nd1
    refine ⟨τ1, F1, S1, sa1, ?_⟩
    have h : Post c (fun F H => RelH c F H σ) W F H σ S Q ((f2 τ1).bind fun h2 τ2 => match g (h1.get τ2) (h2.get τ2) with
      | some d => .ok (.val d) τ2
      | none => .bad) := h
    cases e2 : f2 τ1 with
    | bad => rw [e2] at h; exact h
    | ex n d τ' =>
      rw [e2] at h
      exact Post.step (α := Hdl) (β := V) (R := fun F H => RelH c F H σ) (Q := Q) (r := .ex n d τ') g1 h
    | ok h2 τ2 =>
      rw [e2] at h
      intro v2 F2 H2 A2 S2 g2 sa2 r2 nd2
      have h : Post c (fun F H => RelH c F H σ) W F H σ S Q (match g (h1.get τ2) (h2.get τ2) with
        | some d => .ok (.val d) τ2
        | none => .bad) := h
      have r1' := r1.hand g2 nd1
      have go := Go.trans g1 g2
      cases eg : g (h1.get τ2) (h2.get τ2) with
      | none => rw [eg] at h; exact h.elim
      | some d =>
        rw [eg] at h
        rcases r1'.get sa2 with z | ⟨B1, q1⟩
        · rw [z, hs.un1] at eg
          cases eg
        rcases r2.get sa2 with z | ⟨B2, q2⟩
        · rw [z, hs.un2] at eg
          cases eg
        refine hs.run sa2.ex q1 q2 eg fun v F' H' N gr rr => ?_
        obtain ⟨sa', nd'⟩ := gr.sa sa2
        exact h v F' H' N S2 (Go.trans0 (Go.less go fun b hb => List.mem_append_right _ (List.mem_append_right _ hb)) (gr.go S2)) sa' rr nd'
theorem uno_sound {r : V → Hp → VK → Prop} {g : D → Option D} {f : Den Hdl} {W : WX} (hs : UoS c r g) {σ : L2.St} {H : Hp} {Q : VK} (h : tE c (uno g f) W σ H Q) : tE c f W σ H fun x H1 => r x H1 Q := by
  obtain ⟨τ, F, S, sa, h⟩ := h
  refine ⟨τ, F, S, sa, ?_⟩
  unfold uno at h
  cases e1 : f τ with
  | bad => rw [e1] at h; exact h
  | ex n d τ' => rw [e1] at h; exact h
  | ok h1 τ1 =>
    rw [e1] at h
    intro v1 F1 H1 A1 S1 g1 sa1 r1 nd1
    have h : Post c (fun F H => RelH c F H σ) W F H σ S Q (match g (h1.get τ1) with
        | some d => .ok (.val d) τ1
        | none => .bad) := h
    cases eg : g (h1.get τ1) with
    | none => rw [eg] at h; exact h.elim
    | some d =>
      rw [eg] at h
      rcases r1.get sa1 with z | ⟨B1, q1⟩
      · rw [z, hs.un1] at eg
        cases eg
      refine hs.run sa1.ex q1 eg fun v F' H' N gr rr => ?_
      obtain ⟨sa', nd'⟩ := gr.sa sa1
      exact h v F' H' N S1 (Go.trans0 (Go.less g1 fun b hb => List.mem_append_right _ hb) (gr.go S1)) sa' rr nd'
theorem t_bin {op : Operator} {r : R2} {g : D → D → Option D} {a b : Expr} {f1 f2 : Den Hdl} {pos : Pos} (ho : OpR X (binaryOp op) r) (hs : OpS c r g) (ha : Tr X c a f1) (hb : Tr X c b f2) : Tr X c (.BinOp a op b pos) (bin g f1 f2) :=
  ⟨fun W tk => pe_mono (pe_op ho (ha.pe W tk) (hb.pe W tk)) fun _ _ _ h => bin_sound hs h⟩
theorem t_cmp {op : CmpOp} {r : R2} {g : D → D → Option D} {a b : Expr} {f1 f2 : Den Hdl} {pos : Pos} (ho : OpR X (compareOp op) r) (hs : OpS c r g) (ha : Tr X c a f1) (hb : Tr X c b f2) (hm : behindInMarks op b = false := by first | exact nomark _ | rfl) : Tr X c (.Compare a [op] [b] pos) (bin g f1 f2) :=
  ⟨fun W tk => pe_mono (pe_cmpR ho (ha.pe W tk) (hb.pe W tk) hm) fun _ _ _ h => bin_sound hs h⟩
theorem t_ix {r : R2} {g : D → D → Option D} {a b : Expr} {f1 f2 : Den Hdl} {pos : Pos} (ho : IxR X r) (hs : OpS c r g) (ha : Tr X c a f1) (hb : Tr X c b f2) (hp : PlainIx b := by exact fun _ _ => rfl) : Tr X c (.Subscript a b pos) (bin g f1 f2) :=
  ⟨fun W tk => pe_mono (pe_ix ho (ha.pe W tk) (hb.pe W tk) hp) fun _ _ _ h => bin_sound hs h⟩
theorem t_un {op : UnaryOp} {r : V → Hp → VK → Prop} {g : D → Option D} {a : Expr} {f : Den Hdl} {pos : Pos} (ho : UnR X (unaryOp op) r) (hs : UoS c r g) (ha : Tr X c a f) : Tr X c (.UnaryOp op a pos) (uno g f) :=
  ⟨fun W tk => pe_mono (pe_un ho (ha.pe W tk)) fun _ _ _ h => uno_sound hs h⟩
end
end Y
end

section
set_option Elab.async false
set_option linter.all false
set_option maxRecDepth 100000
set_option maxHeartbeats 4000000
/-! Y2: what the operators do to data; tests; displays; built-in functions. -/
namespace Y
open PySem PySem.Spec PyProof.Rows L2

/-! ### whole numbers -/
def iop (g : Int → Int → D) : D → D → Option D
  | .int i, .int j => some (g i j)
  | _, _ => none
def iopC (C : Int → Int → Bool) (g : Int → Int → D) : D → D → Option D
  | .int i, .int j => if C i j = true then some (g i j) else none
  | _, _ => none
section
variable {c : Ctx}
theorem rel_int {F H : Hp} {i : Int} : Rel c F H (.int i) (.int i) [] := ⟨rfl, rfl⟩
theorem rel_bl {F H : Hp} {i : Bool} : Rel c F H (.bl i) (.bl i) [] := ⟨rfl, rfl⟩
theorem iop_sound {g : Int → Int → D} {gv : Int → Int → V} (h : ∀ i j F H, Rel c F H (g i j) (gv i j) []) : OpS c (rI0 gv) (iop g) := by
  refine ⟨fun y => by cases y <;> rfl, fun x => by cases x <;> rfl, fun {F H x y dx dy A B d Q} e rx ry eg q => ?_⟩
  cases dx <;> first | (cases eg; done) | skip
  cases dy <;> first | (cases eg; done) | skip
  obtain ⟨rfl, _⟩ := rx
  obtain ⟨rfl, _⟩ := ry
  cases eg
  exact ⟨_, _, rfl, rfl, q _ _ _ [] (Grow.refl e) (h _ _ _ _)⟩
theorem iopC_sound {C : Int → Int → Bool} {P : Int → Int → Prop} {g : Int → Int → D} {gv : Int → Int → V} (hP : ∀ i j, C i j = true → P i j) (h : ∀ i j F H, Rel c F H (g i j) (gv i j) []) : OpS c (rI P gv) (iopC C g) := by
  refine ⟨fun y => by cases y <;> rfl, fun x => by cases x <;> rfl, fun {F H x y dx dy A B d Q} e rx ry eg q => ?_⟩
  cases dx <;> first | (cases eg; done) | skip
  cases dy <;> first | (cases eg; done) | skip
  rename_i i j
  obtain ⟨rfl, _⟩ := rx
  obtain ⟨rfl, _⟩ := ry
  have eg : (if C i j = true then some (g i j) else none) = some d := eg
  by_cases hc : C i j = true
  · rw [if_pos hc] at eg
    cases eg
    exact ⟨_, _, rfl, rfl, hP _ _ hc, q _ _ _ [] (Grow.refl e) (h _ _ _ _)⟩
  · rw [if_neg hc] at eg
    cases eg
def subD := iop fun i j => .int (i - j)
def mulC (i j : Int) : Bool := decide (i.natAbs.log2 + j.natAbs.log2 < 1000000)
def fdivC (_ j : Int) : Bool := decide (0 < j) && decide (j.natAbs.log2 < 9000)
def modC (_ j : Int) : Bool := decide (0 < j)
def powC (i j : Int) : Bool := decide (0 ≤ j) && decide (j ≤ 1000) && decide (i.natAbs < 18446744073709551616)
def fdivD := iopC fdivC fun i j => .int (i / j)
def modD := iopC modC fun i j => .int (i % j)
def powD := iopC powC fun i j => .int (i ^ j.toNat)
def ltD := iop fun i j => .bl (decide (i < j))
def leD := iop fun i j => .bl (decide (i ≤ j))
def gtD := iop fun i j => .bl (decide (j < i))
def geD := iop fun i j => .bl (decide (j ≤ i))
end
section
variable {X : Cx} {c : Ctx} {a b : Expr} {f1 f2 : Den Hdl} {pos : Pos}
theorem t_sub (ha : Tr X c a f1) (hb : Tr X c b f2) : Tr X c (.BinOp a .Sub b pos) (bin subD f1 f2) := t_bin op_sub (iop_sound fun _ _ _ _ => rel_int) ha hb
theorem t_fdiv (ha : Tr X c a f1) (hb : Tr X c b f2) : Tr X c (.BinOp a .FloorDiv b pos) (bin fdivD f1 f2) := t_bin op_fdivW (iopC_sound (fun i j h => by
  rw [fdivC, Bool.and_eq_true, decide_eq_true_eq, decide_eq_true_eq] at h
  exact h) fun _ _ _ _ => rel_int) ha hb
theorem t_mod (ha : Tr X c a f1) (hb : Tr X c b f2) : Tr X c (.BinOp a .Mod b pos) (bin modD f1 f2) := t_bin op_mod (iopC_sound (fun i j h => of_decide_eq_true h) fun _ _ _ _ => rel_int) ha hb
theorem t_pow (ha : Tr X c a f1) (hb : Tr X c b f2) : Tr X c (.BinOp a .Pow b pos) (bin powD f1 f2) := t_bin op_pow (iopC_sound (fun i j h => by
  rw [powC, Bool.and_eq_true, Bool.and_eq_true, decide_eq_true_eq, decide_eq_true_eq, decide_eq_true_eq] at h
  exact ⟨h.1.1, by omega, by have := h.2; omega⟩) fun _ _ _ _ => rel_int) ha hb
theorem t_lt (ha : Tr X c a f1) (hb : Tr X c b f2) : Tr X c (.Compare a [.Lt] [b] pos) (bin ltD f1 f2) := t_cmp op_lt (iop_sound fun _ _ _ _ => rel_bl) ha hb
theorem t_le (ha : Tr X c a f1) (hb : Tr X c b f2) : Tr X c (.Compare a [.LtE] [b] pos) (bin leD f1 f2) := t_cmp op_le (iop_sound fun _ _ _ _ => rel_bl) ha hb
theorem t_gt (ha : Tr X c a f1) (hb : Tr X c b f2) : Tr X c (.Compare a [.Gt] [b] pos) (bin gtD f1 f2) := t_cmp op_gt (iop_sound fun _ _ _ _ => rel_bl) ha hb
theorem t_ge (ha : Tr X c a f1) (hb : Tr X c b f2) : Tr X c (.Compare a [.GtE] [b] pos) (bin geD f1 f2) := t_cmp op_ge (iop_sound fun _ _ _ _ => rel_bl) ha hb
theorem OpR.or {f : Value → Value → Sem Value} {r r' : R2} (h : OpR X f r) (h' : OpR X f r') : OpR X f (fun x y H Q => r x y H Q ∨ r' x y H Q) := fun pins s σ H x y v u Q I rx ry q =>
  q.elim (h pins s σ H x y v u Q I rx ry) (h' pins s σ H x y v u Q I rx ry)
def negD : D → Option D
  | .int i => some (.int (-i))
  | _ => none
theorem t_neg (ha : Tr X c a f1) : Tr X c (.UnaryOp .USub a pos) (uno negD f1) := t_un un_neg ⟨rfl, fun {F H x dx A d Q} e rx eg q => by
  cases dx <;> first | (cases eg; done) | skip
  obtain ⟨rfl, _⟩ := rx
  cases eg
  exact ⟨_, rfl, q _ _ _ [] (Grow.refl e) rel_int⟩⟩ ha

/-! ### + * -/
def addD : D → D → Option D
  | .int i, .int j => some (.int (i + j))
  | .str i, .str j => if i.length + j.length ≤ 100000 then some (.str (i ++ j)) else none
  | .tup xs, .tup ys => if D.pls xs && D.pls ys && decide (xs.length + ys.length ≤ 100000) then some (.tup (xs ++ ys)) else none
  | .lst _ xs, .lst _ ys => if D.pls xs && D.pls ys && decide (xs.length + ys.length ≤ 100000) then some (.lst true (xs ++ ys)) else none
  | _, _ => none
theorem size_ok {n : Nat} (h : n ≤ 100000) : n ≤ sizeLine := Nat.le_trans h (by decide)
theorem pls_app {xs ys : List D} (h1 : D.pls xs = true) (h2 : D.pls ys = true) : D.pls (xs ++ ys) = true := by
  rw [pls_all] at *
  rw [List.all_append, h1, h2]
  rfl
theorem rel_tupN {F H F' H' : Hp} {p : Addr} {ds : List D} {vs : List V} {A : List Addr} (r : Rels c F H ds vs A) (g : Grow F H F' H' []) (hp : F' p = some (.tup vs)) : Rel c F' H' (.tup ds) (.ref p) A := ⟨p, vs, rfl, .inl (.inl hp), g.rels r⟩
theorem Grow.old {c : Ctx} {F H F' H' : Hp} {N : List Addr} (g : Grow F H F' H' N) {d : D} {v : V} (r : Rel c F H d v []) : Rel c F' H' d v [] := g.rel r
/-- a list that H tells, owned or frozen -/
theorem rel_lst {F H : Hp} (e : ∀ b o, F b = some o → H b = some o) {o : Bool} {xs : List D} {v : V} {A : List Addr} (r : Rel c F H (.lst o xs) v A) : ∃ p vs B, v = .ref p ∧ H p = some (.lst vs) ∧ Rels c F H xs vs B ∧ (∀ b ∈ B, b ∈ A) := by
  cases o with
  | true =>
    obtain ⟨p, vs, B, h0, h1, h2, rfl, r⟩ := r
    exact ⟨p, vs, B, h0, h1, r, fun b hb => List.mem_cons_of_mem _ hb⟩
  | false =>
    obtain ⟨p, vs, h0, h1, rfl, r⟩ := r
    exact ⟨p, vs, [], h0, e _ _ h1, r, fun b hb => hb⟩
theorem rel_new {F H : Hp} {p : Addr} {ds : List D} {vs : List V} (e : ∀ b o, F b = some o → H b = some o) (r : Rels c F H ds vs []) (hp : H p = none) : Grow F H F (upd H p (.lst vs)) [p] ∧ Rel c F (upd H p (.lst vs)) (.lst true ds) (.ref p) [p] := by
  have g : Grow F H F (upd H p (.lst vs)) [p] := grow_own e hp
  refine ⟨g, p, vs, [], rfl, upd_same, ?_, rfl, g.rels r⟩
  cases q : F p with
  | none => rfl
  | some o =>
    rw [e p o q] at hp
    cases hp
theorem rel_newT {F H : Hp} {p : Addr} {ds : List D} {vs : List V} {A : List Addr} (e : ∀ b o, F b = some o → H b = some o) (r : Rels c F H ds vs A) (hp : H p = none) : Grow F H (upd F p (.tup vs)) (upd H p (.tup vs)) [] ∧ Rel c (upd F p (.tup vs)) (upd H p (.tup vs)) (.tup ds) (.ref p) A := by
  have g : Grow F H (upd F p (.tup vs)) (upd H p (.tup vs)) [] := grow_frz e hp fun ps z => by cases z
  exact ⟨g, rel_tupN r g upd_same⟩
theorem vs_nil {F H : Hp} {ds : List D} {vs : List V} {A : List Addr} (r : Rels c F H ds vs A) : vs = [] ↔ ds = [] := by
  have := r.length
  constructor
  · rintro rfl
    exact List.length_eq_zero_iff.mp this.symm
  · rintro rfl
    exact List.length_eq_zero_iff.mp this
def rAdd (K : PySem.W.Frag) : R2 := fun x y H Q => (((rI0 fun i j => .int (i + j)) x y H Q ∨ (fun x y H Q => ∃ i j, x = .str i ∧ y = .str j ∧ i.length + j.length ≤ sizeLine ∧ Q (.str (i ++ j)) H) x y H Q) ∨ rCatA K x y H Q) ∨ rCat x y H Q
theorem sqT_sub {K : PySem.W.Frag} {F H : Hp} {a : Addr} {xs : List V} (e : ∀ b o, F b = some o → H b = some o) (h : SqT K F a xs) : SqT K H a xs := sqT_mono e h
theorem add_sound : OpS c (rAdd c.K) addD := by
  refine ⟨fun y => by cases y <;> rfl, fun x => by cases x <;> rfl, fun {F H x y dx dy A B d Q} e rx ry eg q => ?_⟩
  cases dx <;> first | (cases eg; done) | skip
  case int =>
    cases dy <;> first | (cases eg; done) | skip
    obtain ⟨rfl, _⟩ := rx
    obtain ⟨rfl, _⟩ := ry
    cases eg
    exact .inl (.inl (.inl ⟨_, _, rfl, rfl, q _ _ _ [] (Grow.refl e) rel_int⟩))
  case str =>
    cases dy <;> first | (cases eg; done) | skip
    rename_i i j
    have eg : (if i.length + j.length ≤ 100000 then some (D.str (i ++ j)) else none) = some d := eg
    split at eg <;> cases eg
    rename_i hl
    obtain ⟨rfl, _⟩ := rx
    obtain ⟨rfl, _⟩ := ry
    exact .inl (.inl (.inr ⟨_, _, rfl, rfl, size_ok hl, q _ _ _ [] (Grow.refl e) ⟨rfl, rfl⟩⟩))
  case tup xs =>
    cases dy <;> first | (cases eg; done) | skip
    rename_i ys
    have eg : (if D.pls xs && D.pls ys && decide (xs.length + ys.length ≤ 100000) then some (D.tup (xs ++ ys)) else none) = some d := eg
    split at eg <;> cases eg
    rename_i hl
    simp only [Bool.and_eq_true, decide_eq_true_eq] at hl
    obtain ⟨⟨p1, p2⟩, hl⟩ := hl
    obtain ⟨p, vs, rfl, s1, r1⟩ := rx
    obtain ⟨p', ws, rfl, s2, r2⟩ := ry
    have z1 := r1.pl_nil p1
    have z2 := r2.pl_nil p2
    subst z1
    subst z2
    refine .inl (.inr ⟨p, p', vs, ws, rfl, rfl, sqT_sub e s1, sqT_sub e s2, size_ok (by rw [r1.length, r2.length]; exact hl), fun z => ?_, fun _ z => ?_, fun _ _ l hn => ?_⟩)
    · have z' := (vs_nil r1).mp z
      subst z'
      exact q _ _ _ [] (Grow.refl e) ⟨p', ws, rfl, s2, r2⟩
    · have z' := (vs_nil r2).mp z
      subst z'
      rw [List.append_nil] at q
      exact q _ _ _ [] (Grow.refl e) ⟨p, vs, rfl, s1, r1⟩
    · obtain ⟨g, r⟩ := rel_newT e (r1.append r2) hn
      exact q _ _ _ [] g r
  case lst o xs =>
    cases dy <;> first | (cases eg; done) | skip
    rename_i o2 ys
    have eg : (if D.pls xs && D.pls ys && decide (xs.length + ys.length ≤ 100000) then some (D.lst true (xs ++ ys)) else none) = some d := eg
    split at eg <;> cases eg
    rename_i hl
    simp only [Bool.and_eq_true, decide_eq_true_eq] at hl
    obtain ⟨⟨p1, p2⟩, hl⟩ := hl
    obtain ⟨p, vs, B1, rfl, s1, r1, _⟩ := rel_lst e rx
    obtain ⟨p', ws, B2, rfl, s2, r2, _⟩ := rel_lst e ry
    have z1 := r1.pl_nil p1
    have z2 := r2.pl_nil p2
    subst z1
    subst z2
    refine .inr ⟨p, p', vs, ws, rfl, rfl, s1, s2, size_ok (by rw [r1.length, r2.length]; exact hl), fun l hn => ?_⟩
    obtain ⟨g, r⟩ := rel_new e (r1.append r2) hn
    exact q _ _ _ [l] g r
theorem t_add (hK : c.K = X.K) (ha : Tr X c a f1) (hb : Tr X c b f2) : Tr X c (.BinOp a .Add b pos) (bin addD f1 f2) :=
  t_bin (r := rAdd c.K) (by rw [hK]; exact ((op_add.or op_add_str).or op_catA).or op_cat) add_sound ha hb
def mulD : D → D → Option D
  | .int i, .int j => if mulC i j then some (.int (i * j)) else none
  | .lst _ xs, .int k => if D.pls xs && decide (-1000 ≤ k) && decide (k ≤ 10000) && decide (xs.length * k.toNat ≤ 100000) then some (.lst true (List.replicate k.toNat xs).flatten) else none
  | .tup xs, .int k => if D.pls xs && !xs.isEmpty && decide (2 ≤ k) && decide (k ≤ 1000) && decide (xs.length ≤ 1000) then some (.tup (List.replicate k.toNat xs).flatten) else none
  | _, _ => none
theorem rels_rep {F H : Hp} {ds : List D} {vs : List V} (r : Rels c F H ds vs []) : ∀ k : Nat, Rels c F H (List.replicate k ds).flatten (List.replicate k vs).flatten []
  | 0 => Rels.nil
  | k + 1 => by
    rw [List.replicate_succ, List.replicate_succ, List.flatten_cons, List.flatten_cons]
    exact r.append (rels_rep r k)
def rMul (K : PySem.W.Frag) : R2 := fun x y H Q => (rI CMulW (fun i j => .int (i * j)) x y H Q ∨ rRep x y H Q) ∨ rRepT K x y H Q
theorem mul_sound : OpS c (rMul c.K) mulD := by
  refine ⟨fun y => by cases y <;> rfl, fun x => by cases x <;> rfl, fun {F H x y dx dy A B d Q} e rx ry eg q => ?_⟩
  cases dx <;> first | (cases eg; done) | skip
  case int =>
    cases dy <;> first | (cases eg; done) | skip
    rename_i i j
    have eg : (if mulC i j then some (D.int (i * j)) else none) = some d := eg
    split at eg <;> cases eg
    rename_i hl
    obtain ⟨rfl, _⟩ := rx
    obtain ⟨rfl, _⟩ := ry
    have hl' : i.natAbs.log2 + j.natAbs.log2 < 1000000 := of_decide_eq_true hl
    exact .inl (.inl ⟨_, _, rfl, rfl, hl', q _ _ _ [] (Grow.refl e) rel_int⟩)
  case tup xs =>
    cases dy <;> first | (cases eg; done) | skip
    rename_i k
    have eg : (if D.pls xs && !xs.isEmpty && decide (2 ≤ k) && decide (k ≤ 1000) && decide (xs.length ≤ 1000) then some (D.tup (List.replicate k.toNat xs).flatten) else none) = some d := eg
    split at eg <;> cases eg
    rename_i hl
    simp only [Bool.and_eq_true, decide_eq_true_eq] at hl
    obtain ⟨⟨⟨⟨p1, h1⟩, h2⟩, h3⟩, h4⟩ := hl
    obtain ⟨p, vs, rfl, s1, r1⟩ := rx
    obtain ⟨rfl, _⟩ := ry
    have z1 := r1.pl_nil p1
    subst z1
    refine .inr ⟨p, k, vs, rfl, rfl, sqT_sub e s1, fun z => ?_, h2, h3, by rw [r1.length]; exact h4, fun l hn => ?_⟩
    · have z' := (vs_nil r1).mp z
      subst z'
      simp at h1
    · obtain ⟨g, r⟩ := rel_newT e (rels_rep r1 k.toNat) hn
      exact q _ _ _ [] g r
  case lst o xs =>
    cases dy <;> first | (cases eg; done) | skip
    rename_i k
    have eg : (if D.pls xs && decide (-1000 ≤ k) && decide (k ≤ 10000) && decide (xs.length * k.toNat ≤ 100000) then some (D.lst true (List.replicate k.toNat xs).flatten) else none) = some d := eg
    split at eg <;> cases eg
    rename_i hl
    simp only [Bool.and_eq_true, decide_eq_true_eq] at hl
    obtain ⟨⟨⟨p1, h1⟩, h2⟩, h3⟩ := hl
    obtain ⟨p, vs, B1, rfl, s1, r1, _⟩ := rel_lst e rx
    obtain ⟨rfl, _⟩ := ry
    have z1 := r1.pl_nil p1
    subst z1
    refine .inl (.inr ⟨p, k, vs, rfl, rfl, s1, by omega, by omega, size_ok (by rw [r1.length]; exact h3), fun l hn => ?_⟩)
    obtain ⟨g, r⟩ := rel_new e (rels_rep r1 k.toNat) hn
    exact q _ _ _ [l] g r
theorem t_mul (hK : c.K = X.K) (ha : Tr X c a f1) (hb : Tr X c b f2) : Tr X c (.BinOp a .Mult b pos) (bin mulD f1 f2) :=
  t_bin (r := rMul c.K) (by rw [hK]; exact (op_mulW.or op_rep).or op_repT) mul_sound ha hb

/-! ### == -/
mutual
def D.py : D → Option PyData
  | .non => some .none
  | .bl b => some (.bool b)
  | .int i => some (.int i)
  | .str s => some (.str s)
  | .tup ds => (D.pys ds).map .tuple
  | .lst _ ds => (D.pys ds).map .list
  | _ => none
def D.pys : List D → Option (List PyData)
  | [] => some []
  | d :: ds => match d.py, D.pys ds with
    | some x, some xs => some (x :: xs)
    | _, _ => none
end
mutual
theorem Rel.dp {F H : Hp} (e : ∀ b o, F b = some o → H b = some o) : ∀ {d : D} {v : V} {A : List Addr} {q : PyData}, Rel c F H d v A → d.py = some q → Dp c.K H v q
  | .un, v, A, q, h, k => h.elim
  | .non, v, A, q, h, k => by obtain ⟨rfl, _⟩ := h; cases k; exact .non
  | .bl _, v, A, q, h, k => by obtain ⟨rfl, _⟩ := h; cases k; exact .bl _
  | .int _, v, A, q, h, k => by obtain ⟨rfl, _⟩ := h; cases k; exact .int _
  | .str _, v, A, q, h, k => by obtain ⟨rfl, _⟩ := h; cases k; exact .str _
  | .tup ds, v, A, q, h, k => by
    obtain ⟨p, vs, rfl, h2, r⟩ := h
    rw [D.py] at k
    cases e1 : D.pys ds with
    | none => rw [e1] at k; cases k
    | some qs =>
      rw [e1] at k
      cases k
      exact .tup (sqT_mono e h2) (Rels.dp e r e1)
  | .lst true ds, v, A, q, h, k => by
    obtain ⟨p, vs, B, rfl, h1, h2, h3, r⟩ := h
    rw [D.py] at k
    cases e1 : D.pys ds with
    | none => rw [e1] at k; cases k
    | some qs =>
      rw [e1] at k
      cases k
      exact .lst (.inl (.inl h1)) (Rels.dp e r e1)
  | .lst false ds, v, A, q, h, k => by
    obtain ⟨p, vs, rfl, h1, h3, r⟩ := h
    rw [D.py] at k
    cases e1 : D.pys ds with
    | none => rw [e1] at k; cases k
    | some qs =>
      rw [e1] at k
      cases k
      exact .lst (.inl (.inl (e _ _ h1))) (Rels.dp e r e1)
  | .dct true ks ds, v, A, q, h, k => by cases k
  | .dct false ks ds, v, A, q, h, k => by cases k
  | .scr _, v, A, q, h, k => by cases k
  | .tok _, v, A, q, h, k => by cases k
  | .tex _ _, v, A, q, h, k => by cases k
theorem Rels.dp {F H : Hp} (e : ∀ b o, F b = some o → H b = some o) : ∀ {ds : List D} {vs : List V} {A : List Addr} {qs : List PyData}, Rels c F H ds vs A → D.pys ds = some qs → DpAll c.K H vs qs
  | [], vs, A, q, h, k => by obtain ⟨rfl, _⟩ := h; cases k; exact .nil
  | d :: ds, vs, A, q, h, k => by
    obtain ⟨v, us, B, C, rfl, _, h1, h2⟩ := h
    rw [D.pys] at k
    cases e1 : d.py with
    | none => rw [e1] at k; cases k
    | some x =>
      cases e2 : D.pys ds with
      | none => rw [e1, e2] at k; cases k
      | some xs =>
        rw [e1, e2] at k
        cases k
        exact .cons (Rel.dp e h1 e1) (Rels.dp e h2 e2)
end
def deepB (a b : D) : Option Bool := match a.py, b.py with
  | some x, some y => if SeqAt.shaped x && SeqAt.shaped y then some (PyData.eqv x y) else none
  | _, _ => none
def eqB (a b : D) : Option Bool := match a, b with
  | .int i, .int j => some (decide (i = j))
  | .str i, .str j => some (decide (i = j))
  | .lst _ xs, .lst _ ys => if xs.length = ys.length then deepB a b else some false
  | _, _ => deepB a b
def eqD (a b : D) : Option D := (eqB a b).map .bl
def neD (a b : D) : Option D := (eqB a b).map fun k => .bl (!k)
/-- lists of unlike lengths -/
def rLen (k : Bool) : R2 := fun x y H Q => ∃ a b xs ys, x = .ref a ∧ y = .ref b ∧ H a = some (.lst xs) ∧ H b = some (.lst ys) ∧ xs.length ≠ ys.length ∧ Q (.bl k) H
theorem PlainL.isList {h : Heap} {a : Addr} {its : Array Value} (p : PlainL h a its) : h.IsList a its := by
  obtain ⟨o, n, h1, h2, _, h4⟩ := p
  exact ⟨o, h1, h2, n, h4⟩
theorem op_eqLen (hu : X.A.units < cLine) : OpR X (compareOp .Eq) (rLen false) := by
  intro pins s σ H x y v u Q I rx ry h
  obtain ⟨a, b, xs, ys, rfl, rfl, h1, h2, hl, q⟩ := h
  cases rx
  cases ry
  obtain ⟨i1, r1, p1, z1⟩ := I.list (a := a) (xs := xs) (.inl (.inl h1))
  obtain ⟨i2, r2, p2, z2⟩ := I.list (a := b) (xs := ys) (.inl (.inl h2))
  refine SeqAt.eq_list_lengthsAt (PlainL.isList p1) (PlainL.isList p2) ?_ hu ⟨.bl false, H, I, rfl, q⟩
  have e1 := r1.length
  have e2 := r2.length
  simp
  omega
theorem op_neLen (hu : X.A.units < cLine) : OpR X (compareOp .NotEq) (rLen true) := by
  intro pins s σ H x y v u Q I rx ry h
  obtain ⟨a, b, xs, ys, rfl, rfl, h1, h2, hl, q⟩ := h
  cases rx
  cases ry
  obtain ⟨i1, r1, p1, z1⟩ := I.list (a := a) (xs := xs) (.inl (.inl h1))
  obtain ⟨i2, r2, p2, z2⟩ := I.list (a := b) (xs := ys) (.inl (.inl h2))
  refine SeqAt.RcNeAt.lists_lengths (PlainL.isList p1) (PlainL.isList p2) ?_ hu X.prog X.w _ _ ⟨.bl true, H, I, rfl, q⟩
  have e1 := r1.length
  have e2 := r2.length
  simp
  omega
def rEqA (K : PySem.W.Frag) : R2 := fun x y H Q => (rEq x y H Q ∨ rEqD K x y H Q) ∨ rLen false x y H Q
def rNeA (K : PySem.W.Frag) : R2 := fun x y H Q => (rNe x y H Q ∨ rNeD K x y H Q) ∨ rLen true x y H Q
theorem deep_py {a b : D} {k : Bool} (h : deepB a b = some k) : ∃ x y, a.py = some x ∧ b.py = some y ∧ SeqAt.shaped x = true ∧ SeqAt.shaped y = true ∧ k = PyData.eqv x y := by
  unfold deepB at h
  cases e1 : a.py with
  | none => rw [e1] at h; cases h
  | some x =>
    cases e2 : b.py with
    | none => rw [e1, e2] at h; cases h
    | some y =>
      rw [e1, e2] at h
      have h : (if SeqAt.shaped x && SeqAt.shaped y then some (PyData.eqv x y) else none) = some k := h
      split at h <;> cases h
      rename_i hs
      rw [Bool.and_eq_true] at hs
      exact ⟨x, y, rfl, rfl, hs.1, hs.2, rfl⟩
theorem eqB_un1 (b : D) : eqB .un b = none := by cases b <;> rfl
theorem eqB_un2 (a : D) : eqB a .un = none := by
  have z : ∀ a : D, deepB a .un = none := fun a => by
    unfold deepB
    cases a.py <;> rfl
  cases a <;> (simp only [eqB]; exact z _)
theorem eqB_cases {a b : D} {k : Bool} (h : eqB a b = some k) : (∃ i j, a = .int i ∧ b = .int j ∧ k = decide (i = j)) ∨ (∃ i j, a = .str i ∧ b = .str j ∧ k = decide (i = j)) ∨ deepB a b = some k ∨ ∃ o p xs ys, a = .lst o xs ∧ b = .lst p ys ∧ xs.length ≠ ys.length ∧ k = false := by
  unfold eqB at h
  split at h
  · cases h
    exact .inl ⟨_, _, rfl, rfl, rfl⟩
  · cases h
    exact .inr (.inl ⟨_, _, rfl, rfl, rfl⟩)
  · split at h
    · exact .inr (.inr (.inl h))
    · cases h
      rename_i hl
      exact .inr (.inr (.inr ⟨_, _, _, _, rfl, rfl, hl, rfl⟩))
  · exact .inr (.inr (.inl h))
theorem eq_core {F H : Hp} {x y : V} {dx dy : D} {A B : List Addr} {k : Bool} (e : ∀ b o, F b = some o → H b = some o) (rx : Rel c F H dx x A) (ry : Rel c F H dy y B) (h : eqB dx dy = some k) :
    (scal x y = true ∧ k = decide (x = y)) ∨ (∃ d q, Dp c.K H x d ∧ Dp c.K H y q ∧ SeqAt.shaped d = true ∧ SeqAt.shaped q = true ∧ k = PyData.eqv d q) ∨
      ∃ a b xs ys, x = .ref a ∧ y = .ref b ∧ H a = some (.lst xs) ∧ H b = some (.lst ys) ∧ xs.length ≠ ys.length ∧ k = false := by
  rcases eqB_cases h with ⟨i, j, rfl, rfl, rfl⟩ | ⟨i, j, rfl, rfl, rfl⟩ | h | ⟨o, p, xs, ys, rfl, rfl, hl, rfl⟩
  · obtain ⟨rfl, _⟩ := rx
    obtain ⟨rfl, _⟩ := ry
    refine .inl ⟨rfl, ?_⟩
    by_cases z : i = j
    · subst z; simp
    · rw [decide_eq_false z, decide_eq_false (fun q => z (V.int.inj q))]
  · obtain ⟨rfl, _⟩ := rx
    obtain ⟨rfl, _⟩ := ry
    refine .inl ⟨rfl, ?_⟩
    by_cases z : i = j
    · subst z; simp
    · rw [decide_eq_false z, decide_eq_false (fun q => z (V.str.inj q))]
  · obtain ⟨q1, q2, h1, h2, s1, s2, rfl⟩ := deep_py h
    exact .inr (.inl ⟨q1, q2, rx.dp e h1, ry.dp e h2, s1, s2, rfl⟩)
  · obtain ⟨p1, vs, B1, rfl, m1, r1, _⟩ := rel_lst e rx
    obtain ⟨p2, ws, B2, rfl, m2, r2, _⟩ := rel_lst e ry
    exact .inr (.inr ⟨p1, p2, vs, ws, rfl, rfl, m1, m2, by rw [r1.length, r2.length]; exact hl, rfl⟩)
theorem eq_sound : OpS c (rEqA c.K) eqD := by
  refine ⟨fun y => by unfold eqD; rw [eqB_un1]; rfl, fun x => by unfold eqD; rw [eqB_un2]; rfl, fun {F H x y dx dy A B d Q} e rx ry eg q => ?_⟩
  unfold eqD at eg
  cases h : eqB dx dy with
  | none => rw [h] at eg; cases eg
  | some k =>
    rw [h] at eg
    cases eg
    have q' := q (.bl k) F H [] (Grow.refl e) rel_bl
    rcases eq_core e rx ry h with ⟨h1, rfl⟩ | ⟨q1, q2, h1, h2, h3, h4, rfl⟩ | ⟨a, b, xs, ys, h1, h2, h3, h4, h5, rfl⟩
    · exact .inl (.inl ⟨h1, q'⟩)
    · exact .inl (.inr ⟨q1, q2, h1, h2, h3, h4, q'⟩)
    · exact .inr ⟨a, b, xs, ys, h1, h2, h3, h4, h5, q'⟩
theorem ne_sound : OpS c (rNeA c.K) neD := by
  refine ⟨fun y => by unfold neD; rw [eqB_un1]; rfl, fun x => by unfold neD; rw [eqB_un2]; rfl, fun {F H x y dx dy A B d Q} e rx ry eg q => ?_⟩
  unfold neD at eg
  cases h : eqB dx dy with
  | none => rw [h] at eg; cases eg
  | some k =>
    rw [h] at eg
    cases eg
    have q' := q (.bl (!k)) F H [] (Grow.refl e) rel_bl
    rcases eq_core e rx ry h with ⟨h1, rfl⟩ | ⟨q1, q2, h1, h2, h3, h4, rfl⟩ | ⟨a, b, xs, ys, h1, h2, h3, h4, h5, rfl⟩
    · exact .inl (.inl ⟨h1, q'⟩)
    · exact .inl (.inr ⟨q1, q2, h1, h2, h3, h4, q'⟩)
    · exact .inr ⟨a, b, xs, ys, h1, h2, h3, h4, h5, q'⟩
theorem t_eq (hK : c.K = X.K) (hu : X.A.units + 64 < cLine) (ha : Tr X c a f1) (hb : Tr X c b f2) : Tr X c (.Compare a [.Eq] [b] pos) (bin eqD f1 f2) :=
  t_cmp (r := rEqA c.K) (by rw [hK]; exact (op_eq.or (op_eqD hu)).or (op_eqLen (by omega))) eq_sound ha hb
theorem t_ne (hK : c.K = X.K) (hu : X.A.units + 64 < cLine) (ha : Tr X c a f1) (hb : Tr X c b f2) : Tr X c (.Compare a [.NotEq] [b] pos) (bin neD f1 f2) :=
  t_cmp (r := rNeA c.K) (by rw [hK]; exact (op_ne.or (op_neD hu)).or (op_neLen (by omega))) ne_sound ha hb

/-! ### is None -/
def isNB : D → Option Bool
  | .un => none
  | .non => some true
  | .scr _ => none
  | .tok _ => none
  | .tex _ _ => none
  | _ => some false
def isND : D → D → Option D
  | a, .non => (isNB a).map .bl
  | _, _ => none
def notND : D → D → Option D
  | a, .non => (isNB a).map fun k => .bl (!k)
  | _, _ => none
theorem isN_core {F H : Hp} {x : V} {dx : D} {A : List Addr} {k : Bool} (rx : Rel c F H dx x A) (h : isNB dx = some k) : k = decide (x = .non) := by
  cases dx <;> first | (cases h; done) | skip
  · cases h; obtain ⟨rfl, _⟩ := rx; rfl
  · cases h; obtain ⟨rfl, _⟩ := rx; rfl
  · cases h; obtain ⟨rfl, _⟩ := rx; rfl
  · cases h; obtain ⟨rfl, _⟩ := rx; rfl
  · cases h; obtain ⟨p, vs, rfl, _⟩ := rx; rfl
  · rename_i o ds
    cases h
    cases o
    · obtain ⟨p, vs, rfl, _⟩ := rx; rfl
    · obtain ⟨p, vs, B, rfl, _⟩ := rx; rfl
  · rename_i o ks ds
    cases h
    cases o
    · obtain ⟨p, vs, rfl, _⟩ := rx; rfl
    · obtain ⟨p, vs, B, rfl, _⟩ := rx; rfl
theorem isN_sound : OpS c (fun x y H Q => y = .non ∧ Q (.bl (decide (x = .non))) H) isND := by
  refine ⟨fun y => by cases y <;> rfl, fun x => rfl, fun {F H x y dx dy A B d Q} e rx ry eg q => ?_⟩
  cases dy <;> first | (cases eg; done) | skip
  obtain ⟨rfl, _⟩ := ry
  have eg : (isNB dx).map D.bl = some d := eg
  cases h : isNB dx with
  | none => rw [h] at eg; cases eg
  | some k =>
    rw [h] at eg
    cases eg
    refine ⟨rfl, ?_⟩
    rw [← isN_core rx h]
    exact q _ _ _ [] (Grow.refl e) rel_bl
theorem notN_sound : OpS c (fun x y H Q => y = .non ∧ Q (.bl (!decide (x = .non))) H) notND := by
  refine ⟨fun y => by cases y <;> rfl, fun x => rfl, fun {F H x y dx dy A B d Q} e rx ry eg q => ?_⟩
  cases dy <;> first | (cases eg; done) | skip
  obtain ⟨rfl, _⟩ := ry
  have eg : (isNB dx).map (fun k => D.bl (!k)) = some d := eg
  cases h : isNB dx with
  | none => rw [h] at eg; cases eg
  | some k =>
    rw [h] at eg
    cases eg
    refine ⟨rfl, ?_⟩
    rw [← isN_core rx h]
    exact q _ _ _ [] (Grow.refl e) rel_bl
theorem t_isN (ha : Tr X c a f1) (hb : Tr X c b f2) : Tr X c (.Compare a [.Is] [b] pos) (bin isND f1 f2) := t_cmp op_isN isN_sound ha hb
theorem t_notN (ha : Tr X c a f1) (hb : Tr X c b f2) : Tr X c (.Compare a [.IsNot] [b] pos) (bin notND f1 f2) := t_cmp op_notN notN_sound ha hb
end
end Y
end

section
set_option Elab.async false
set_option linter.all false
set_option maxRecDepth 100000
set_option maxHeartbeats 4000000
/-! Y3: tests, displays, subscripts, slices, built-in functions. -/
namespace Y
open PySem PySem.Spec PyProof.Rows L2

section
variable {X : Cx} {c : Ctx} {a b e : Expr} {rest es : List Expr} {f f1 f2 f3 : Den Hdl} {p1 p2 p3 : Den Bool} {pos : Pos}
/-! ### tests -/
def tst (f : Den Hdl) : Den Bool := fun τ => (f τ).bind fun h τ1 => match h.get τ1 with
  | .bl b => .ok b τ1
  | _ => .bad
def andT (p1 p2 : Den Bool) : Den Bool := fun τ => (p1 τ).bind fun b τ1 => if b = true then p2 τ1 else .ok false τ1
def orT (p1 p2 : Den Bool) : Den Bool := fun τ => (p1 τ).bind fun b τ1 => if b = true then .ok true τ1 else p2 τ1
def notT (p1 : Den Bool) : Den Bool := fun τ => (p1 τ).bind fun b τ1 => .ok (!b) τ1
theorem tst_sound {W : WX} {σ : L2.St} {H : Hp} {Q : Bool → Hp → Prop} (h : tT c (tst f) W σ H Q) : tE c f W σ H fun x H' => ∃ k, x = .bl k ∧ Q k H' := by
  obtain ⟨τ, F, S, sa, h⟩ := h
  refine ⟨τ, F, S, sa, ?_⟩
  unfold tst at h
  cases e1 : f τ with
  | bad => rw [e1] at h; exact h
  | ex n d τ' => rw [e1] at h; exact h
  | ok h1 τ1 =>
    rw [e1] at h
    intro v1 F1 H1 A1 S1 g1 sa1 r1 nd1
    have h : Post c (fun _ _ (a : Bool) b A => b = a ∧ A = []) W F H σ S Q (match h1.get τ1 with
      | .bl b => .ok b τ1
      | _ => .bad) := h
    rcases r1.get sa1 with z | ⟨B1, q1⟩
    · rw [z] at h; exact h.elim
    · cases eg : h1.get τ1 <;> rw [eg] at h q1 <;> first | exact h.elim | skip
      obtain ⟨rfl, _⟩ := q1
      exact ⟨_, rfl, h _ F1 H1 [] S1 (Go.less g1 fun b hb => List.mem_append_right _ hb) sa1 ⟨rfl, rfl⟩ sa1.nd⟩
theorem tt_val (ha : Tr X c e f) (he : ∀ whole, isTrue e X.env whole = (do let v ← whole; standAt e.pos; holding [v] (truthy v)) := by intro _; rfl) : TrT X c e (tst f) :=
  ⟨fun W tk => pt_mono (pt_val (ha.pe W tk) he) fun _ _ _ h => tst_sound h⟩
/-- the same for what isTrue treats apart (comparisons): by their own rule -/
theorem tt_cmp {op : CmpOp} {r : R2} {g : D → D → Option D} (ho : OpR X (compareOp op) r) (hs : OpS c r g) (ha : Tr X c a f1) (hb : Tr X c b f2) (hm : behindInMarks op b = false := by first | exact nomark _ | rfl) :
    TrT X c (.Compare a [op] [b] pos) (tst (bin g f1 f2)) :=
  ⟨fun W tk => pt_mono (pt_cmpR ho (ha.pe W tk) (hb.pe W tk) hm) fun σ H Q h => by
    have q := tst_sound h
    exact bin_sound hs q⟩
theorem andT_sound {W : WX} {σ : L2.St} {H : Hp} {Q : Bool → Hp → Prop} (h : tT c (andT p1 p2) W σ H Q) : tAnd (tT c p1 W) (tT c p2 W) σ H Q := by
  obtain ⟨τ, F, S, sa, h⟩ := h
  refine ⟨τ, F, S, sa, ?_⟩
  unfold andT at h
  cases e1 : p1 τ with
  | bad => rw [e1] at h; exact h
  | ex n d τ' => rw [e1] at h; exact h
  | ok k τ1 =>
    rw [e1] at h
    intro v1 F1 H1 A1 S1 g1 sa1 r1 nd1
    obtain ⟨rfl, rfl⟩ := r1
    cases v1 with
    | true => exact iteT ⟨τ1, F1, S1, sa1, Post.step (A := []) g1 h⟩
    | false =>
      refine iteF ?_
      exact (show Post c (fun _ _ (a : Bool) b A => b = a ∧ A = []) W F H σ S Q (.ok false τ1) from h) _ F1 H1 [] S1 g1 sa1 ⟨rfl, rfl⟩ sa1.nd
theorem orT_sound {W : WX} {σ : L2.St} {H : Hp} {Q : Bool → Hp → Prop} (h : tT c (orT p1 p2) W σ H Q) : tOr (tT c p1 W) (tT c p2 W) σ H Q := by
  obtain ⟨τ, F, S, sa, h⟩ := h
  refine ⟨τ, F, S, sa, ?_⟩
  unfold orT at h
  cases e1 : p1 τ with
  | bad => rw [e1] at h; exact h
  | ex n d τ' => rw [e1] at h; exact h
  | ok k τ1 =>
    rw [e1] at h
    intro v1 F1 H1 A1 S1 g1 sa1 r1 nd1
    obtain ⟨rfl, rfl⟩ := r1
    cases v1 with
    | false => exact iteF ⟨τ1, F1, S1, sa1, Post.step (A := []) g1 h⟩
    | true =>
      refine iteT ?_
      exact (show Post c (fun _ _ (a : Bool) b A => b = a ∧ A = []) W F H σ S Q (.ok true τ1) from h) _ F1 H1 [] S1 g1 sa1 ⟨rfl, rfl⟩ sa1.nd
structure TrW (X : Cx) (c : Ctx) (e : Expr) (f : Den Bool) : Prop where
  pw : ∀ W, Takes X W → PW X e (tT c f W)
theorem pw_mono {t t' : TT} (h : PW X e t) (k : ∀ σ H Q, t' σ H Q → t σ H Q) : PW X e t' := ⟨fun w pins s σ H Q I q => h.run w pins s σ H Q I (k σ H Q q)⟩
theorem TrW.t (h : TrW X c e p1) : TrT X c e p1 := ⟨fun W tk => (h.pw W tk).pt⟩
theorem tw_and1 (ha : TrT X c a p1) : TrW X c (.BoolOp .And [a] pos) p1 := ⟨fun W tk => pw_and1 (ha.pt W tk)⟩
theorem tw_or1 (ha : TrT X c a p1) : TrW X c (.BoolOp .Or [a] pos) p1 := ⟨fun W tk => pw_or1 (ha.pt W tk)⟩
theorem tw_and (ha : TrT X c a p1) (hb : TrW X c (.BoolOp .And (b :: rest) pos) p2) : TrW X c (.BoolOp .And (a :: b :: rest) pos) (andT p1 p2) :=
  ⟨fun W tk => pw_mono (pw_and (ha.pt W tk) (hb.pw W tk)) fun _ _ _ h => andT_sound h⟩
theorem tw_or (ha : TrT X c a p1) (hb : TrW X c (.BoolOp .Or (b :: rest) pos) p2) : TrW X c (.BoolOp .Or (a :: b :: rest) pos) (orT p1 p2) :=
  ⟨fun W tk => pw_mono (pw_or (ha.pt W tk) (hb.pw W tk)) fun _ _ _ h => orT_sound h⟩
theorem tt_not (ha : TrT X c a p1) : TrT X c (.UnaryOp .Not a pos) (notT p1) := by
  refine ⟨fun W tk => pt_mono (pt_not (ha.pt W tk)) fun σ H Q h => ?_⟩
  obtain ⟨τ, F, S, sa, h⟩ := h
  refine ⟨τ, F, S, sa, ?_⟩
  unfold notT at h
  cases e1 : p1 τ with
  | bad => rw [e1] at h; exact h
  | ex n d τ' => rw [e1] at h; exact h
  | ok k τ1 =>
    rw [e1] at h
    intro v1 F1 H1 A1 S1 g1 sa1 r1 nd1
    obtain ⟨rfl, rfl⟩ := r1
    exact (show Post c (fun _ _ (a : Bool) b A => b = a ∧ A = []) W F H σ S Q (.ok (!v1) τ1) from h) _ F1 H1 [] S1 g1 sa1 ⟨rfl, rfl⟩ sa1.nd

/-! ### and, or, not, if as values (truths) -/
def blOf : Hdl → List D → Option Bool := fun h τ => match h.get τ with
  | .bl b => some b
  | _ => none
def andV (f1 f2 : Den Hdl) : Den Hdl := fun τ => (tst f1 τ).bind fun b τ1 => if b = true then f2 τ1 else .ok (.val (.bl false)) τ1
def orV (f1 f2 : Den Hdl) : Den Hdl := fun τ => (tst f1 τ).bind fun b τ1 => if b = true then .ok (.val (.bl true)) τ1 else f2 τ1
def notV (f1 : Den Hdl) : Den Hdl := fun τ => (tst f1 τ).bind fun b τ1 => .ok (.val (.bl (!b))) τ1
theorem bindT_sound {W : WX} {σ : L2.St} {H : Hp} {Q : VK} {k : Bool → List D → Rz Hdl} (h : tE c (fun τ => (tst f1 τ).bind k) W σ H Q) :
    tE c f1 W σ H fun x H1 => ∃ b, x = .bl b ∧ ∃ τ1 F1 S1, SA c F1 H1 σ τ1 S1 ∧ Post c (fun F H => RelH c F H σ) W F1 H1 σ S1 Q (k b τ1) := by
  refine tst_sound (c := c) (f := f1) (W := W) (Q := fun b H1 => ∃ τ1 F1 S1, SA c F1 H1 σ τ1 S1 ∧ Post c (fun F H => RelH c F H σ) W F1 H1 σ S1 Q (k b τ1)) ?_
  obtain ⟨τ, F, S, sa, h⟩ := h
  refine ⟨τ, F, S, sa, ?_⟩
  have h : Post c (fun F H => RelH c F H σ) W F H σ S Q ((tst f1 τ).bind k) := h
  cases e1 : tst f1 τ with
  | bad => rw [e1] at h; exact h
  | ex n d τ' => rw [e1] at h; exact h
  | ok b τ1 =>
    rw [e1] at h
    intro v1 F1 H1 A1 S1 g1 sa1 r1 nd1
    obtain ⟨rfl, rfl⟩ := r1
    exact ⟨τ1, F1, S1, sa1, Post.step (A := []) g1 h⟩
theorem t_one {op} (h : Tr X c a f) : Tr X c (.BoolOp op [a] pos) f := ⟨fun W tk => pe_one (h.pe W tk)⟩
theorem t_and (ha : Tr X c a f1) (hb : Tr X c (.BoolOp .And (b :: rest) pos) f2) : Tr X c (.BoolOp .And (a :: b :: rest) pos) (andV f1 f2) := by
  refine ⟨fun W tk => pe_mono (pe_and (ha.pe W tk) (hb.pe W tk)) fun σ H Q h => ?_⟩
  obtain ⟨τ, F, S, sa, h⟩ := bindT_sound h
  refine ⟨τ, F, S, sa, ?_⟩
  cases e1 : f1 τ with
  | bad => rw [e1] at h; exact h
  | ex n d τ' => rw [e1] at h; exact h
  | ok h1 τ1 =>
    rw [e1] at h
    intro v1 F1 H1 A1 S1 g1 sa1 r1 nd1
    obtain ⟨b, rfl, τ2, F2, S2, sa2, h2⟩ := h v1 F1 H1 A1 S1 g1 sa1 r1 nd1
    refine ⟨b, rfl, ?_⟩
    cases b with
    | true => exact iteT ⟨τ2, F2, S2, sa2, h2⟩
    | false => exact iteF (Post.grow (a := Hdl.val (.bl false)) sa2 h2 (Grow.refl sa2.ex) (show Rel c F2 H1 (.bl false) (.bl false) [] from ⟨rfl, rfl⟩))
theorem t_or (ha : Tr X c a f1) (hb : Tr X c (.BoolOp .Or (b :: rest) pos) f2) : Tr X c (.BoolOp .Or (a :: b :: rest) pos) (orV f1 f2) := by
  refine ⟨fun W tk => pe_mono (pe_or (ha.pe W tk) (hb.pe W tk)) fun σ H Q h => ?_⟩
  obtain ⟨τ, F, S, sa, h⟩ := bindT_sound h
  refine ⟨τ, F, S, sa, ?_⟩
  cases e1 : f1 τ with
  | bad => rw [e1] at h; exact h
  | ex n d τ' => rw [e1] at h; exact h
  | ok h1 τ1 =>
    rw [e1] at h
    intro v1 F1 H1 A1 S1 g1 sa1 r1 nd1
    obtain ⟨b, rfl, τ2, F2, S2, sa2, h2⟩ := h v1 F1 H1 A1 S1 g1 sa1 r1 nd1
    refine ⟨b, rfl, ?_⟩
    cases b with
    | false => exact iteF ⟨τ2, F2, S2, sa2, h2⟩
    | true => exact iteT (Post.grow (a := Hdl.val (.bl true)) sa2 h2 (Grow.refl sa2.ex) (show Rel c F2 H1 (.bl true) (.bl true) [] from ⟨rfl, rfl⟩))
theorem t_not (ha : Tr X c a f1) : Tr X c (.UnaryOp .Not a pos) (notV f1) := by
  refine ⟨fun W tk => pe_mono (pe_not (ha.pe W tk)) fun σ H Q h => ?_⟩
  obtain ⟨τ, F, S, sa, h⟩ := bindT_sound h
  refine ⟨τ, F, S, sa, ?_⟩
  cases e1 : f1 τ with
  | bad => rw [e1] at h; exact h
  | ex n d τ' => rw [e1] at h; exact h
  | ok h1 τ1 =>
    rw [e1] at h
    intro v1 F1 H1 A1 S1 g1 sa1 r1 nd1
    obtain ⟨b, rfl, τ2, F2, S2, sa2, h2⟩ := h v1 F1 H1 A1 S1 g1 sa1 r1 nd1
    exact ⟨b, rfl, Post.grow (a := Hdl.val (.bl (!b))) sa2 h2 (Grow.refl sa2.ex) (show Rel c F2 H1 (.bl (!b)) (.bl (!b)) [] from ⟨rfl, rfl⟩)⟩
def ifE (p : Den Bool) (f1 f2 : Den Hdl) : Den Hdl := fun τ => (p τ).bind fun b τ1 => if b = true then f1 τ1 else f2 τ1
theorem t_if (hp : TrT X c e p1) (ha : Tr X c a f1) (hb : Tr X c b f2) : Tr X c (.IfExp e a b pos) (ifE p1 f1 f2) := by
  refine ⟨fun W tk => pe_mono (pe_ifExp (hp.pt W tk) (ha.pe W tk) (hb.pe W tk)) fun σ H Q h => ?_⟩
  obtain ⟨τ, F, S, sa, h⟩ := h
  refine ⟨τ, F, S, sa, ?_⟩
  unfold ifE at h
  cases e1 : p1 τ with
  | bad => rw [e1] at h; exact h
  | ex n d τ' => rw [e1] at h; exact h
  | ok k τ1 =>
    rw [e1] at h
    intro v1 F1 H1 A1 S1 g1 sa1 r1 nd1
    obtain ⟨rfl, rfl⟩ := r1
    cases v1 with
    | true => exact iteT ⟨τ1, F1, S1, sa1, Post.step (A := []) g1 h⟩
    | false => exact iteF ⟨τ1, F1, S1, sa1, Post.step (A := []) g1 h⟩

/-! ### a < b < c -/
def chn (g1 g2 : D → D → Option D) (f1 f2 f3 : Den Hdl) : Den Hdl := fun τ => (f1 τ).bind fun h1 τ1 => (f2 τ1).bind fun h2 τ2 => match g1 (h1.get τ2) (h2.get τ2) with
  | some (.bl true) => (f3 τ2).bind fun h3 τ3 => match g2 (h2.get τ3) (h3.get τ3) with
    | some d => .ok (.val d) τ3
    | none => .bad
  | some (.bl false) => .ok (.val (.bl false)) τ2
  | _ => .bad
theorem chn_sound {r1 r2 : R2} {g1 g2 : D → D → Option D} {W : WX} (hs1 : OpS c r1 g1) (hs2 : OpS c r2 g2) {σ : L2.St} {H : Hp} {Q : VK} (h : tE c (chn g1 g2 f1 f2 f3) W σ H Q) :
    tChain r1 r2 (tE c f1 W) (tE c f2 W) (tE c f3 W) σ H Q := by
  obtain ⟨τ, F, S, sa, h⟩ := h
  refine ⟨τ, F, S, sa, ?_⟩
  unfold chn at h
  cases e1 : f1 τ with
  | bad => rw [e1] at h; exact h
  | ex n d τ' => rw [e1] at h; exact h
  | ok h1 τ1 =>
    rw [e1] at h
    intro v1 F1 H1 A1 S1 go1 sa1 q1 nd1
    refine ⟨τ1, F1, S1, sa1, ?_⟩
    have h : Post c (fun F H => RelH c F H σ) W F H σ S Q ((f2 τ1).bind fun h2 τ2 => match g1 (h1.get τ2) (h2.get τ2) with
      | some (.bl true) => (f3 τ2).bind fun h3 τ3 => match g2 (h2.get τ3) (h3.get τ3) with
        | some d => .ok (.val d) τ3
        | none => .bad
      | some (.bl false) => .ok (.val (.bl false)) τ2
      | _ => .bad) := h
    cases e2 : f2 τ1 with
    | bad => rw [e2] at h; exact h
    | ex n d τ' =>
      rw [e2] at h
      exact Post.step (α := Hdl) (β := V) (R := fun F H => RelH c F H σ) (Q := Q) (r := .ex n d τ') go1 h
    | ok h2 τ2 =>
      rw [e2] at h
      intro v2 F2 H2 A2 S2 go2 sa2 q2 nd2
      have h : Post c (fun F H => RelH c F H σ) W F H σ S Q (match g1 (h1.get τ2) (h2.get τ2) with
        | some (.bl true) => (f3 τ2).bind fun h3 τ3 => match g2 (h2.get τ3) (h3.get τ3) with
          | some d => .ok (.val d) τ3
          | none => .bad
        | some (.bl false) => .ok (.val (.bl false)) τ2
        | _ => .bad) := h
      have q1' := q1.hand go2 nd1
      have go := Go.less (Go.trans go1 go2) (B := A2 ++ S2) fun b hb => List.mem_append_right _ hb
      cases eg : g1 (h1.get τ2) (h2.get τ2) with
      | none => rw [eg] at h; exact h.elim
      | some d =>
        rw [eg] at h
        rcases q1'.get sa2 with z | ⟨B1, w1⟩
        · rw [z, hs1.un1] at eg
          cases eg
        rcases q2.get sa2 with z | ⟨B2, w2⟩
        · rw [z, hs1.un2] at eg
          cases eg
        refine hs1.run sa2.ex w1 w2 eg fun v F3 H3 N gr rr => ?_
        obtain ⟨sa3, nd3⟩ := gr.sa sa2
        have go3 : Go F2 H2 (A2 ++ S2) F3 H3 (A2 ++ S2) := Go.less (gr.go _) fun b hb => List.mem_append_right _ hb
        have q2' : RelH c F3 H3 σ h2 v2 A2 := by
          cases h2 with
          | slot i => exact q2
          | val d' => exact gr.rel q2
        cases d <;> first | exact h.elim | skip
        rename_i k
        obtain ⟨rfl, rfl⟩ := rr
        refine ⟨k, rfl, ?_⟩
        cases k with
        | false =>
          refine iteF ?_
          exact (show Post c (fun F H => RelH c F H σ) W F H σ S Q (.ok (.val (.bl false)) τ2) from h) _ F3 H3 [] S2 (Go.less (Go.trans0 go go3) fun b hb => List.mem_append_right _ hb) sa3 (show Rel c F3 H3 (.bl false) (.bl false) [] from ⟨rfl, rfl⟩) sa3.nd
        | true =>
          refine iteT ⟨τ2, F3, S2, sa3, ?_⟩
          have h : Post c (fun F H => RelH c F H σ) W F H σ S Q ((f3 τ2).bind fun h3 τ3 => match g2 (h2.get τ3) (h3.get τ3) with
            | some d => .ok (.val d) τ3
            | none => .bad) := h
          have go23 := Go.trans0 go go3
          cases e3 : f3 τ2 with
          | bad => rw [e3] at h; exact h
          | ex n d τ' =>
            rw [e3] at h
            exact Post.step (α := Hdl) (β := V) (R := fun F H => RelH c F H σ) (Q := Q) (r := .ex n d τ') go23 h
          | ok h3 τ3 =>
            rw [e3] at h
            intro v3 F4 H4 A4 S4 go4 sa4 q4 nd4
            have h : Post c (fun F H => RelH c F H σ) W F H σ S Q (match g2 (h2.get τ3) (h3.get τ3) with
              | some d => .ok (.val d) τ3
              | none => .bad) := h
            have q2'' := q2'.hand go4 nd2
            have gof := Go.less (Go.trans go23 go4) (B := S4) fun b hb => List.mem_append_right _ (List.mem_append_right _ hb)
            cases eg2 : g2 (h2.get τ3) (h3.get τ3) with
            | none => rw [eg2] at h; exact h.elim
            | some d =>
              rw [eg2] at h
              rcases q2''.get sa4 with z | ⟨B3, w3⟩
              · rw [z, hs2.un1] at eg2
                cases eg2
              rcases q4.get sa4 with z | ⟨B4, w4⟩
              · rw [z, hs2.un2] at eg2
                cases eg2
              refine hs2.run sa4.ex w3 w4 eg2 fun v F5 H5 N5 gr5 rr5 => ?_
              obtain ⟨sa5, nd5⟩ := gr5.sa sa4
              exact h v F5 H5 N5 S4 (Go.trans0 gof (gr5.go S4)) sa5 rr5 nd5
theorem t_chain {op op' : CmpOp} {r r' : R2} {g g' : D → D → Option D} {cc : Expr} (ho : OpR X (compareOp op) r) (ho' : OpR X (compareOp op') r') (hs : OpS c r g) (hs' : OpS c r' g') (ha : Tr X c a f1) (hb : Tr X c b f2) (hc : Tr X c cc f3)
    (hm : lastMarks [op, op'] [b, cc] = false := by with_unfolding_all rfl) : Tr X c (.Compare a [op, op'] [b, cc] pos) (chn g g' f1 f2 f3) :=
  ⟨fun W tk => pe_mono (pe_chain ho ho' (ha.pe W tk) (hb.pe W tk) (hc.pe W tk) hm) fun _ _ _ h => chn_sound hs hs' h⟩
theorem tt_chain {op op' : CmpOp} {r r' : R2} {g g' : D → D → Option D} {cc : Expr} (ho : OpR X (compareOp op) r) (ho' : OpR X (compareOp op') r') (hs : OpS c r g) (hs' : OpS c r' g') (ha : Tr X c a f1) (hb : Tr X c b f2) (hc : Tr X c cc f3)
    (hm : lastMarks [op, op'] [b, cc] = false := by with_unfolding_all rfl) : TrT X c (.Compare a [op, op'] [b, cc] pos) (tst (chn g g' f1 f2 f3)) :=
  ⟨fun W tk => pt_mono (pt_chain ho ho' (ha.pe W tk) (hb.pe W tk) (hc.pe W tk) hm) fun σ H Q h => chn_sound hs hs' (tst_sound h)⟩
end
end Y
end

section
set_option Elab.async false
set_option linter.all false
set_option maxRecDepth 100000
set_option maxHeartbeats 4000000
/-! Y4: displays, subscripts, slices, built-in functions. -/
namespace Y
open PySem PySem.Spec PyProof.Rows L2

section
variable {X : Cx} {c : Ctx} {a b e : Expr} {rest es : List Expr} {f f1 f2 f3 : Den Hdl} {g : Den (List Hdl)} {pos : Pos}
/-! ### argument lists -/
def anil : Den (List Hdl) := fun τ => .ok [] τ
def acons (f : Den Hdl) (g : Den (List Hdl)) : Den (List Hdl) := fun τ => (f τ).bind fun h τ1 => (g τ1).bind fun hs τ2 => .ok (h :: hs) τ2
theorem ta_nil : TrA X c [] anil := by
  refine ⟨fun W _ => pa_mono pa_nil fun σ H Q h => ?_⟩
  obtain ⟨τ, F, S, sa, h⟩ := h
  exact (show Post c (fun F H => RelHs c F H σ) W F H σ S Q (.ok [] τ) from h) [] F H [] S Go.refl sa ⟨rfl, rfl⟩ sa.nd
theorem RelHs.hand {F1 H1 F2 H2 : Hp} {σ : L2.St} {A S1 B : List Addr} {h : List Hdl} {v : List V} (r : RelHs c F1 H1 σ h v A) (b : Go F1 H1 S1 F2 H2 B) (nd : (A ++ S1).Nodup) : RelHs c F2 H2 σ h v A := by
  induction h generalizing v A with
  | nil => exact r
  | cons x xs ih =>
    obtain ⟨w, ws, B1, C, rfl, rfl, r1, r2⟩ := r
    have n1 := List.nodup_append.mp nd
    refine ⟨w, ws, B1, C, rfl, rfl, r1.hand b ?_, ih r2 ?_⟩
    · have n2 := List.nodup_append.mp n1.1
      exact List.nodup_append.mpr ⟨n2.1, n1.2.1, fun x hx y hy => n1.2.2 x (List.mem_append_left _ hx) y hy⟩
    · have n2 := List.nodup_append.mp n1.1
      exact List.nodup_append.mpr ⟨n2.2.1, n1.2.1, fun x hx y hy => n1.2.2 x (List.mem_append_right _ hx) y hy⟩
theorem acons_sound {W : WX} {σ : L2.St} {H : Hp} {Q : List V → Hp → Prop} (h : tA c (acons f g) W σ H Q) : tCons (tE c f W) (tA c g W) σ H Q := by
  obtain ⟨τ, F, S, sa, h⟩ := h
  refine ⟨τ, F, S, sa, ?_⟩
  unfold acons at h
  cases e1 : f τ with
  | bad => rw [e1] at h; exact h
  | ex n d τ' => rw [e1] at h; exact h
  | ok h1 τ1 =>
    rw [e1] at h
    intro v1 F1 H1 A1 S1 g1 sa1 r1 nd1
    refine ⟨τ1, F1, S1, sa1, ?_⟩
    have h : Post c (fun F H => RelHs c F H σ) W F H σ S Q ((g τ1).bind fun hs τ2 => .ok (h1 :: hs) τ2) := h
    cases e2 : g τ1 with
    | bad => rw [e2] at h; exact h
    | ex n d τ' =>
      rw [e2] at h
      exact Post.step (α := List Hdl) (β := List V) (R := fun F H => RelHs c F H σ) (Q := Q) (r := .ex n d τ') g1 h
    | ok hs τ2 =>
      rw [e2] at h
      intro v2 F2 H2 A2 S2 g2 sa2 r2 nd2
      have h : Post c (fun F H => RelHs c F H σ) W F H σ S Q (.ok (h1 :: hs) τ2) := h
      exact h (v1 :: v2) F2 H2 (A1 ++ A2) S2 (by rw [List.append_assoc]; exact Go.trans g1 g2) sa2 ⟨v1, v2, A1, A2, rfl, rfl, r1.hand g2 nd1, r2⟩ (by rw [List.append_assoc]; exact nodup_hand g2 r1.owned nd1 nd2)
theorem ta_cons (ha : Tr X c e f) (hr : TrA X c es g) (hs : starEach (e :: es) X.env = (false, eval e X.env) :: starEach es X.env := by rfl) : TrA X c (e :: es) (acons f g) :=
  ⟨fun W tk => pa_mono (pa_cons (ha.pe W tk) (hr.pa W tk) hs) fun _ _ _ h => acons_sound h⟩

/-! ### displays -/
def valsOf : List Hdl → Option (List D)
  | [] => some []
  | .val d :: hs => (valsOf hs).map (d :: ·)
  | .slot _ :: _ => none
theorem valsOf_rel {F H : Hp} {σ : L2.St} : ∀ {hs : List Hdl} {ds : List D} {vs : List V} {A : List Addr}, valsOf hs = some ds → RelHs c F H σ hs vs A → Rels c F H ds vs A
  | [], ds, vs, A, e, r => by cases e; exact r
  | .val d :: hs, ds, vs, A, e, r => by
    obtain ⟨w, ws, B1, C, rfl, rfl, r1, r2⟩ := r
    have e : (valsOf hs).map (d :: ·) = some ds := e
    cases e1 : valsOf hs with
    | none => rw [e1] at e; cases e
    | some ds' =>
      rw [e1] at e
      cases e
      exact ⟨w, ws, B1, C, rfl, rfl, r1, valsOf_rel e1 r2⟩
  | .slot _ :: _, ds, vs, A, e, r => by cases e
def dsp (k : List D → D) (g : Den (List Hdl)) : Den Hdl := fun τ => (g τ).bind fun hs τ1 => match valsOf hs with
  | some ds => if ds.length ≤ 100000 then .ok (.val (k ds)) τ1 else .bad
  | none => .bad
theorem dsp_sound {k : List D → D} {W : WX} {σ : L2.St} {H : Hp} {Q : VK} (mk : List V → HO)
    (hk : ∀ {F H : Hp} {p : Addr} {ds : List D} {vs : List V} {A : List Addr}, (∀ b o, F b = some o → H b = some o) → Rels c F H ds vs A → H p = none → ∃ F' N, Grow F H F' (upd H p (mk vs)) N ∧ Rel c F' (upd H p (mk vs)) (k ds) (.ref p) (N ++ A))
    (h : tE c (dsp k g) W σ H Q) : tA c g W σ H fun xs H1 => xs.length ≤ sizeLine ∧ ∀ p, H1 p = none → Q (.ref p) (upd H1 p (mk xs)) := by
  obtain ⟨τ, F, S, sa, h⟩ := h
  refine ⟨τ, F, S, sa, ?_⟩
  unfold dsp at h
  cases e1 : g τ with
  | bad => rw [e1] at h; exact h
  | ex n d τ' => rw [e1] at h; exact h
  | ok hs τ1 =>
    rw [e1] at h
    intro vs F1 H1 A1 S1 g1 sa1 r1 nd1
    have h : Post c (fun F H => RelH c F H σ) W F H σ S Q (match valsOf hs with
      | some ds => if ds.length ≤ 100000 then .ok (.val (k ds)) τ1 else .bad
      | none => .bad) := h
    cases e2 : valsOf hs with
    | none => rw [e2] at h; exact h.elim
    | some ds =>
      rw [e2] at h
      have h : Post c (fun F H => RelH c F H σ) W F H σ S Q (if ds.length ≤ 100000 then .ok (.val (k ds)) τ1 else .bad) := h
      have r := valsOf_rel e2 r1
      by_cases hl : ds.length ≤ 100000
      · rw [if_pos hl] at h
        refine ⟨size_ok (by rw [r.length]; exact hl), fun p hp => ?_⟩
        obtain ⟨F', N, gr, rr⟩ := hk sa1.ex r hp
        obtain ⟨sa2, _⟩ := gr.sa sa1
        have own := r.owned
        have go := Go.trans0 g1 (gr.go (A1 ++ S1))
        have nd : (N ++ (A1 ++ S1)).Nodup := List.nodup_append.mpr ⟨gr.nd, nd1, fun x hx y hy z => by
          subst z
          rcases List.mem_append.mp hy with hy | hy
          · obtain ⟨_, o, h2, _⟩ := own x hy
            rw [gr.s x hx] at h2
            cases h2
          · obtain ⟨_, o, h2, _⟩ := sa1.owned x hy
            rw [gr.s x hx] at h2
            cases h2⟩
        exact h (.ref p) F' (upd H1 p (mk vs)) (N ++ A1) S1 (by rw [List.append_assoc]; exact go) sa2 rr (by rw [List.append_assoc]; exact nd)
      · rw [if_neg hl] at h
        exact h.elim
theorem t_tup {x1} (h : TrA X c es g) : Tr X c (.Tuple es x1 pos) (dsp .tup g) :=
  ⟨fun W tk => pe_mono (pe_tup (h.pa W tk)) fun σ H Q hq => dsp_sound HO.tup (fun e r hp => let ⟨gr, rr⟩ := rel_newT e r hp; ⟨_, [], gr, rr⟩) hq⟩
theorem t_lst (h : TrA X c es g) : Tr X c (.List es pos) (dsp (.lst true) g) := by
  refine ⟨fun W tk => pe_mono (pe_lst (h.pa W tk)) fun σ H Q hq => dsp_sound HO.lst (fun {F H p ds vs A} e r hp => ?_) hq⟩
  have gr : Grow F H F (upd H p (.lst vs)) [p] := grow_own e hp
  refine ⟨F, [p], gr, p, vs, A, rfl, upd_same, ?_, rfl, gr.rels r⟩
  cases q : F p with
  | none => rfl
  | some o =>
    rw [e p o q] at hp
    cases hp

/-! ### built-in functions -/
theorem uno_call {r : List V → Hp → VK → Prop} {h : D → Option D} {W : WX} {σ : L2.St} {H : Hp} {Q : VK} (hs : UoS c (fun x H Q => r [x] H Q) h) (q : tE c (uno h f) W σ H Q) : tCB r (tCons (tE c f W) tNil) σ H Q := uno_sound hs q
theorem t_callB {id : String} {r : List V → Hp → VK → Prop} {h : D → Option D} {x : Str} {p : Pos} (hc : CallR X (.builtin id) r) (hs : UoS c (fun x H Q => r [x] H Q) h) (ha : Tr X c a f) (hm : X.mg x = none) (hv : bootBuiltins x = some (.builtin id)) (hg : Gl X x := by rfl) (hn : x ≠ "__name__" := by decide)
    (hdb : (x == ("__debug__" : Str)) = false := by decide) (he : starEach [a] X.env = (false, eval a X.env) :: starEach [] X.env := by rfl) (hpl : (backTo pos (starEach [] X.env)).any (·.1) = false := by rfl) : Tr X c (.Call (.Name x p) [a] [] pos) (uno h f) :=
  ⟨fun W tk => pe_mono (pe_callB hc hg hm hv (pa_cons (ha.pe W tk) pa_nil he) hn hdb he hpl) fun _ _ _ q => uno_call hs q⟩
theorem t_callTy {T : String} {r : List V → Hp → VK → Prop} {h : D → Option D} {x : Str} {p : Pos} (hc : CallR X (.type T) r) (hs : UoS c (fun x H Q => r [x] H Q) h) (ha : Tr X c a f) (hm : X.mg x = none) (hv : bootBuiltins x = some (.type T)) (hg : Gl X x := by rfl) (hn : x ≠ "__name__" := by decide)
    (hdb : (x == ("__debug__" : Str)) = false := by decide) (he : starEach [a] X.env = (false, eval a X.env) :: starEach [] X.env := by rfl) (hpl : (backTo pos (starEach [] X.env)).any (·.1) = false := by rfl) : Tr X c (.Call (.Name x p) [a] [] pos) (uno h f) :=
  ⟨fun W tk => pe_mono (pe_callTy hc hg hm hv (pa_cons (ha.pe W tk) pa_nil he) hn hdb he hpl) fun _ _ _ q => uno_call hs q⟩
theorem t_callB2 {id : String} {r : List V → Hp → VK → Prop} {h : D → D → Option D} {x : Str} {p : Pos} (hc : CallR X (.builtin id) r) (hs : OpS c (fun x y H Q => r [x, y] H Q) h) (ha : Tr X c a f1) (hb : Tr X c b f2) (hm : X.mg x = none) (hv : bootBuiltins x = some (.builtin id)) (hg : Gl X x := by rfl) (hn : x ≠ "__name__" := by decide)
    (hdb : (x == ("__debug__" : Str)) = false := by decide) (he : starEach [a, b] X.env = (false, eval a X.env) :: starEach [b] X.env := by rfl) (he2 : starEach [b] X.env = (false, eval b X.env) :: starEach [] X.env := by rfl) (hpl : (backTo pos (starEach [b] X.env)).any (·.1) = false := by rfl) :
    Tr X c (.Call (.Name x p) [a, b] [] pos) (bin h f1 f2) :=
  ⟨fun W tk => pe_mono (pe_callB hc hg hm hv (pa_cons (ha.pe W tk) (pa_cons (hb.pe W tk) pa_nil he2) he) hn hdb he hpl) fun _ _ _ q => bin_sound hs q⟩
theorem CallR.or' {f : Value} {r r' : List V → Hp → VK → Prop} (h : CallR X f r) (h' : CallR X f r') : CallR X f (fun xs H Q => r xs H Q ∨ r' xs H Q) := h.or h'
/-- len -/
def lenD : D → Option D
  | .tup xs => some (.int xs.length)
  | .lst _ xs => some (.int xs.length)
  | .scr xs => some (.int xs.length)
  | .dct _ ks _ => some (.int ks.length)
  | .str s => if s.length ≤ 100000 then some (.int s.length) else none
  | _ => none
def rLen1 (K : PySem.W.Frag) : List V → Hp → VK → Prop := fun xs H Q => ((∃ p ys, xs = [.ref p] ∧ (SqL K H p ys ∨ SqT K H p ys) ∧ Q (.int ys.length) H) ∨ ∃ z, xs = [.str z] ∧ z.length ≤ sizeLine ∧ Q (.int z.length) H) ∨ ∃ p kvs, xs = [.ref p] ∧ H p = some (.dK kvs) ∧ Q (.int kvs.length) H
theorem call_len_dK : CallR X (.builtin "len") (fun xs H Q => ∃ p kvs, xs = [.ref p] ∧ H p = some (.dK kvs) ∧ Q (.int kvs.length) H) := by
  intro pins s σ H xs us Q I r h
  obtain ⟨p, kvs, rfl, e, q⟩ := h
  obtain ⟨u, rfl, r1⟩ := vals1 r
  obtain rfl : u = Value.ref p := r1
  exact d_len I (.inl e) fun t s' I' => ⟨.int kvs.length, H, I', ⟨t, rfl⟩, q⟩
theorem rel_dct {F H : Hp} (e : ∀ b o, F b = some o → H b = some o) {o : Bool} {ks : List Key} {xs : List D} {v : V} {A : List Addr} (r : Rel c F H (.dct o ks xs) v A) : ∃ p vs B, v = .ref p ∧ H p = some (.dK (ks.zip vs)) ∧ ks.length = xs.length ∧ Rels c F H xs vs B ∧ (∀ b ∈ B, b ∈ A) := by
  cases o with
  | true =>
    obtain ⟨p, vs, B, h0, h1, h3, h2, rfl, r⟩ := r
    exact ⟨p, vs, B, h0, h1, h3, r, fun b hb => List.mem_cons_of_mem _ hb⟩
  | false =>
    obtain ⟨p, vs, h0, h1, h3, rfl, r⟩ := r
    exact ⟨p, vs, [], h0, e _ _ h1, h3, r, fun b hb => hb⟩
theorem len_sound : UoS c (fun x H Q => rLen1 c.K [x] H Q) lenD := by
  refine ⟨rfl, fun {F H x dx A d Q} e rx eg q => ?_⟩
  cases dx <;> first | (cases eg; done) | skip
  · rename_i z
    have eg : (if z.length ≤ 100000 then some (D.int z.length) else none) = some d := eg
    split at eg <;> cases eg
    rename_i hl
    obtain ⟨rfl, _⟩ := rx
    exact .inl (.inr ⟨z, rfl, size_ok hl, q _ _ _ [] (Grow.refl e) rel_int⟩)
  · cases eg
    obtain ⟨p, vs, rfl, h, r⟩ := rx
    refine .inl (.inl ⟨p, vs, rfl, .inr (sqT_sub e h), ?_⟩)
    rw [r.length]
    exact q _ _ _ [] (Grow.refl e) rel_int
  · cases eg
    obtain ⟨p, vs, B, rfl, h, r, _⟩ := rel_lst e rx
    refine .inl (.inl ⟨p, vs, rfl, .inl (.inl (.inl h)), ?_⟩)
    rw [r.length]
    exact q _ _ _ [] (Grow.refl e) rel_int
  · cases eg
    obtain ⟨p, vs, B, rfl, h, hk, r, _⟩ := rel_dct e rx
    refine .inr ⟨p, _, rfl, h, ?_⟩
    rw [List.length_zip, r.length, hk, Nat.min_self]
    rw [hk] at q
    exact q _ _ _ [] (Grow.refl e) rel_int
  · rename_i ns
    cases eg
    obtain ⟨p, rfl, h, _⟩ := rx
    refine .inl (.inl ⟨p, ns.map V.int, rfl, .inl (sqL_mono e h), ?_⟩)
    rw [List.length_map]
    exact q _ _ _ [] (Grow.refl e) rel_int
theorem t_len {p : Pos} (hK : c.K = X.K) (hm : X.mg "len" = none) (ha : Tr X c a f) (hg : Gl X "len" := by rfl) (he : starEach [a] X.env = (false, eval a X.env) :: starEach [] X.env := by rfl) (hpl : (backTo pos (starEach [] X.env)).any (·.1) = false := by rfl) :
    Tr X c (.Call (.Name "len" p) [a] [] pos) (uno lenD f) :=
  t_callB (r := rLen1 c.K) (by rw [hK]; exact (call_len_seq.or call_len_str).or call_len_dK) len_sound ha hm PySem.boot_len hg (by decide) (by decide) he hpl
/-- int -/
def intD : D → Option D
  | .int i => some (.int i)
  | .bl k => some (.int (if k then 1 else 0))
  | _ => none
theorem t_int1 {p : Pos} (hm : X.mg "int" = none) (ha : Tr X c a f) (hg : Gl X "int" := by rfl) (he : starEach [a] X.env = (false, eval a X.env) :: starEach [] X.env := by rfl) (hpl : (backTo pos (starEach [] X.env)).any (·.1) = false := by rfl) :
    Tr X c (.Call (.Name "int" p) [a] [] pos) (uno intD f) :=
  t_callTy call_int1 ⟨rfl, fun {F H x dx A d Q} e rx eg q => by
    cases dx <;> first | (cases eg; done) | skip
    · cases eg
      obtain ⟨rfl, _⟩ := rx
      exact .inr ⟨_, rfl, q _ _ _ [] (Grow.refl e) rel_int⟩
    · cases eg
      obtain ⟨rfl, _⟩ := rx
      exact .inl ⟨_, rfl, q _ _ _ [] (Grow.refl e) rel_int⟩⟩ ha hm (by decide +kernel) hg (by decide) (by decide) he hpl
def max2D := iop fun i j => .int (if j > i then j else i)
def min2D := iop fun i j => .int (if j < i then j else i)
theorem iop_call {g : Int → Int → D} {gv : Int → Int → V} (h : ∀ i j F H, Rel c F H (g i j) (gv i j) []) : OpS c (fun x y H Q => ∃ i j, [x, y] = [V.int i, V.int j] ∧ Q (gv i j) H) (iop g) := by
  refine ⟨fun y => by cases y <;> rfl, fun x => by cases x <;> rfl, fun {F H x y dx dy A B d Q} e rx ry eg q => ?_⟩
  obtain ⟨i, j, rfl, rfl, q'⟩ := (iop_sound h).run e rx ry eg q
  exact ⟨i, j, rfl, q'⟩
theorem t_max2 {p : Pos} (hc : X.calm = true) (hm : X.mg "max" = none) (ha : Tr X c a f1) (hb : Tr X c b f2) (hg : Gl X "max" := by rfl) (he : starEach [a, b] X.env = (false, eval a X.env) :: starEach [b] X.env := by rfl) (he2 : starEach [b] X.env = (false, eval b X.env) :: starEach [] X.env := by rfl)
    (hpl : (backTo pos (starEach [b] X.env)).any (·.1) = false := by rfl) : Tr X c (.Call (.Name "max" p) [a, b] [] pos) (bin max2D f1 f2) :=
  t_callB2 (call_max2 hc) (iop_call fun _ _ _ _ => rel_int) ha hb hm (by decide +kernel) hg (by decide) (by decide) he he2 hpl
theorem t_min2 {p : Pos} (hc : X.calm = true) (hm : X.mg "min" = none) (ha : Tr X c a f1) (hb : Tr X c b f2) (hg : Gl X "min" := by rfl) (he : starEach [a, b] X.env = (false, eval a X.env) :: starEach [b] X.env := by rfl) (he2 : starEach [b] X.env = (false, eval b X.env) :: starEach [] X.env := by rfl)
    (hpl : (backTo pos (starEach [b] X.env)).any (·.1) = false := by rfl) : Tr X c (.Call (.Name "min" p) [a, b] [] pos) (bin min2D f1 f2) :=
  t_callB2 (call_min2 hc) (iop_call fun _ _ _ _ => rel_int) ha hb hm (by decide +kernel) hg (by decide) (by decide) he he2 hpl
/-- list, tuple of a list, a tuple -/
def listD : D → Option D
  | .tup xs => if D.pls xs then some (.lst true xs) else none
  | .lst _ xs => if D.pls xs then some (.lst true xs) else none
  | _ => none
def tupleD : D → Option D
  | .tup xs => if D.pls xs then some (.tup xs) else none
  | .lst _ xs => if D.pls xs then some (.tup xs) else none
  | _ => none
theorem t_list {p : Pos} (hK : c.K = X.K) (hm : X.mg "list" = none) (ha : Tr X c a f) (hg : Gl X "list" := by rfl) (he : starEach [a] X.env = (false, eval a X.env) :: starEach [] X.env := by rfl) (hpl : (backTo pos (starEach [] X.env)).any (·.1) = false := by rfl) :
    Tr X c (.Call (.Name "list" p) [a] [] pos) (uno listD f) :=
  t_callTy call_list_of ⟨rfl, fun {F H x dx A d Q} e rx eg q => by
    cases dx <;> first | (cases eg; done) | skip
    · rename_i xs
      have eg : (if D.pls xs then some (D.lst true xs) else none) = some d := eg
      split at eg <;> cases eg
      rename_i hp
      obtain ⟨p, vs, rfl, h, r⟩ := rx
      have z := r.pl_nil hp
      subst z
      refine ⟨p, vs, rfl, .inr (by rw [← hK]; exact sqT_sub e h), fun l hl => ?_⟩
      obtain ⟨g, rr⟩ := rel_new e r hl
      exact q _ _ _ [l] g rr
    · rename_i o xs
      have eg : (if D.pls xs then some (D.lst true xs) else none) = some d := eg
      split at eg <;> cases eg
      rename_i hp
      obtain ⟨p, vs, B, rfl, h, r, _⟩ := rel_lst e rx
      have z := r.pl_nil hp
      subst z
      refine ⟨p, vs, rfl, .inl (.inl (.inl h)), fun l hl => ?_⟩
      obtain ⟨g, rr⟩ := rel_new e r hl
      exact q _ _ _ [l] g rr⟩ ha hm (by decide +kernel) hg (by decide) (by decide) he hpl
theorem t_tuple {p : Pos} (hK : c.K = X.K) (hm : X.mg "tuple" = none) (ha : Tr X c a f) (hg : Gl X "tuple" := by rfl) (he : starEach [a] X.env = (false, eval a X.env) :: starEach [] X.env := by rfl) (hpl : (backTo pos (starEach [] X.env)).any (·.1) = false := by rfl) :
    Tr X c (.Call (.Name "tuple" p) [a] [] pos) (uno tupleD f) :=
  t_callTy call_tuple_of ⟨rfl, fun {F H x dx A d Q} e rx eg q => by
    cases dx <;> first | (cases eg; done) | skip
    · rename_i xs
      have eg : (if D.pls xs then some (D.tup xs) else none) = some d := eg
      split at eg <;> cases eg
      rename_i hp
      obtain ⟨p, vs, rfl, h, r⟩ := rx
      have z := r.pl_nil hp
      subst z
      exact ⟨p, vs, rfl, .inr ⟨by rw [← hK]; exact sqT_sub e h, q _ _ _ [] (Grow.refl e) ⟨p, vs, rfl, h, r⟩⟩⟩
    · rename_i o xs
      have eg : (if D.pls xs then some (D.tup xs) else none) = some d := eg
      split at eg <;> cases eg
      rename_i hp
      obtain ⟨p, vs, B, rfl, h, r, _⟩ := rel_lst e rx
      have z := r.pl_nil hp
      subst z
      refine ⟨p, vs, rfl, .inl ⟨.inl (.inl h), fun l hl => ?_⟩⟩
      obtain ⟨g, rr⟩ := rel_newT e r hl
      exact q _ _ _ [] g rr⟩ ha hm (by decide +kernel) hg (by decide) (by decide) he hpl
/-- isinstance(x, T) -/
def tyD : D → Option String
  | .non => some "NoneType"
  | .bl _ => some "bool"
  | .int _ => some "int"
  | .str _ => some "str"
  | .tup _ => some "tuple"
  | .lst _ _ => some "list"
  | .dct _ _ _ => some "dict"
  | _ => none
/-- the types that isinstance is asked of, and which types stand under them -/
def isiB (T : String) : D → Option Bool
  | .un => none
  | .scr _ => none
  | .tok _ => none
  | .tex _ _ => none
  | .non => some (T == "NoneType")
  | .bl _ => some (T == "bool" || T == "int")
  | .int _ => some (T == "int")
  | .str _ => some (T == "str")
  | .tup _ => some (T == "tuple")
  | .lst _ _ => some (T == "list")
  | .dct _ _ _ => some (T == "dict")
def isiD (T : String) (d : D) : Option D := (isiB T d).map .bl
structure IsTy (T : String) : Prop where
  non : kitB "NoneType" T = some (T == "NoneType")
  bl : kitB "bool" T = some (T == "bool" || T == "int")
  int : kitB "int" T = some (T == "int")
  str : kitB "str" T = some (T == "str")
  tup : kitB "tuple" T = some (T == "tuple")
  lst : kitB "list" T = some (T == "list")
  dct : kitB "dict" T = some (T == "dict")
theorem isTy_int : IsTy "int" := ⟨by decide +kernel, by decide +kernel, by decide +kernel, by decide +kernel, by decide +kernel, by decide +kernel, by decide +kernel⟩
theorem isTy_bool : IsTy "bool" := ⟨by decide +kernel, by decide +kernel, by decide +kernel, by decide +kernel, by decide +kernel, by decide +kernel, by decide +kernel⟩
theorem isTy_str : IsTy "str" := ⟨by decide +kernel, by decide +kernel, by decide +kernel, by decide +kernel, by decide +kernel, by decide +kernel, by decide +kernel⟩
theorem isTy_tuple : IsTy "tuple" := ⟨by decide +kernel, by decide +kernel, by decide +kernel, by decide +kernel, by decide +kernel, by decide +kernel, by decide +kernel⟩
theorem isTy_list : IsTy "list" := ⟨by decide +kernel, by decide +kernel, by decide +kernel, by decide +kernel, by decide +kernel, by decide +kernel, by decide +kernel⟩
theorem isi_sound {T : String} (hT : IsTy T) : UoS c (fun x H Q => rIsi c.K [x, .ty T] H Q) (isiD T) := by
  refine ⟨rfl, fun {F H x dx A d Q} e rx eg q => ?_⟩
  have fin : ∀ {k : Bool} {t : String}, TyX c.K H x (.type t) → kitB t T = some k → d = .bl k → rIsi c.K [x, .ty T] H Q := fun {k t} h1 h2 h3 => by
    subst h3
    exact ⟨x, .ty T, .type t, .type T, k, rfl, .ty T, h1, kit_ty h2, q _ _ _ [] (Grow.refl e) rel_bl⟩
  cases dx <;> first | (cases eg; done) | skip
  · cases eg; obtain ⟨rfl, _⟩ := rx; exact fin (.base .non) hT.non rfl
  · cases eg; obtain ⟨rfl, _⟩ := rx; exact fin (.base (.bl _)) hT.bl rfl
  · cases eg; obtain ⟨rfl, _⟩ := rx; exact fin (.base (.int _)) hT.int rfl
  · cases eg; obtain ⟨rfl, _⟩ := rx; exact fin (.base (.str _)) hT.str rfl
  · cases eg
    obtain ⟨p, vs, rfl, h, r⟩ := rx
    rcases h with (h | ⟨o, h⟩) | ⟨o, its, n, h1, h2, _⟩
    · exact fin (.base (.tup (e _ _ h))) hT.tup rfl
    · exact fin (.fTuple (e _ _ h)) hT.tup rfl
    · exact fin (.kTuple h1 h2) hT.tup rfl
  · cases eg
    obtain ⟨p, vs, B, rfl, h, _⟩ := rel_lst e rx
    exact fin (.base (.lst h)) hT.lst rfl
  · cases eg
    obtain ⟨p, vs, B, rfl, h, _⟩ := rel_dct e rx
    exact fin (.base (.dK h)) hT.dct rfl
theorem t_isi {T : String} {x : Str} {p p' : Pos} (hT : IsTy T) (hK : c.K = X.K) (hm : X.mg "isinstance" = none) (hmT : X.mg x = none) (hvT : bootBuiltins x = some (.type T)) (ha : Tr X c a f) (hg : Gl X "isinstance" := by rfl) (hgT : Gl X x := by rfl) (hnT : x ≠ "__name__" := by decide) (hdT : (x == ("__debug__" : Str)) = false := by decide)
    (he : starEach [a, .Name x p'] X.env = (false, eval a X.env) :: starEach [.Name x p'] X.env := by rfl) (he2 : starEach [.Name x p'] X.env = (false, eval (.Name x p') X.env) :: starEach [] X.env := by rfl) (hpl : (backTo pos (starEach [.Name x p'] X.env)).any (·.1) = false := by rfl) :
    Tr X c (.Call (.Name "isinstance" p) [a, .Name x p'] [] pos) (uno (isiD T) f) :=
  ⟨fun W tk => pe_mono (pe_callB (r := rIsi c.K) (by rw [hK]; exact call_isi) hg hm (by decide +kernel) (pa_cons (ha.pe W tk) (pa_cons (pe_bltn (v := .ty T) hgT hmT hvT rfl hnT hdT) pa_nil he2) he) (by decide) (by decide) he hpl) fun _ _ _ q => uno_sound (isi_sound hT) q⟩

/-! ### subscripts, slices -/
def keyD : D → Option Key
  | .int i => some (.inl i)
  | .str s => some (.inr s)
  | _ => none
def lookD : List Key → List D → Key → Option D
  | k :: ks, d :: ds, j => if k = j then some d else lookD ks ds j
  | _, _, _ => none
def plO : Option D → Option D
  | some d => if d.pl then some d else none
  | none => none
def ixD : D → D → Option D
  | .tup xs, .int i => plO (atI xs i)
  | .lst _ xs, .int i => plO (atI xs i)
  | .scr ns, .int i => (atI ns i).map D.int
  | .str s, .int i => if s.length ≤ 100000 then (atI s.cps.toList i).map (fun k => .str ⟨#[k]⟩) else none
  | .dct _ ks ds, k => (keyD k).bind fun j => plO (lookD ks ds j)
  | _, _ => none
theorem Rels.at {F H : Hp} : ∀ {ds : List D} {vs : List V} {A : List Addr} {j : Nat} {d : D}, Rels c F H ds vs A → ds[j]? = some d → ∃ v B, vs[j]? = some v ∧ Rel c F H d v B ∧ ∀ b ∈ B, b ∈ A
  | [], vs, A, j, d, r, e => by simp at e
  | x :: ds, vs, A, 0, d, r, e => by
    obtain ⟨v, ws, B, C, rfl, rfl, r1, r2⟩ := r
    have e' : x = d := by simpa using e
    subst e'
    exact ⟨v, B, rfl, r1, fun b hb => List.mem_append_left _ hb⟩
  | x :: ds, vs, A, j + 1, d, r, e => by
    obtain ⟨v, ws, B, C, rfl, rfl, r1, r2⟩ := r
    obtain ⟨w, B', h1, h2, h3⟩ := Rels.at (j := j) (d := d) r2 (by simpa using e)
    exact ⟨w, B', by simpa using h1, h2, fun b hb => List.mem_append_right _ (h3 b hb)⟩
theorem Rels.atI {F H : Hp} {ds : List D} {vs : List V} {A : List Addr} {i : Int} {d : D} (r : Rels c F H ds vs A) (e : atI ds i = some d) : ∃ v B, atI vs i = some v ∧ Rel c F H d v B := by
  unfold L2.atI at e ⊢
  rw [r.length]
  cases h : ixN ds.length i with
  | none => rw [h] at e; cases e
  | some j =>
    rw [h] at e
    obtain ⟨v, B, h1, h2, _⟩ := r.at (j := j) (d := d) e
    exact ⟨v, B, h1, h2⟩
theorem plO_some {o : Option D} {d : D} (h : plO o = some d) : o = some d ∧ d.pl = true := by
  cases o with
  | none => cases h
  | some x =>
    have h : (if x.pl then some x else none) = some d := h
    split at h <;> cases h
    rename_i k
    exact ⟨rfl, k⟩
theorem lookD_rel {F H : Hp} : ∀ {ks : List Key} {ds : List D} {vs : List V} {A : List Addr} {k : Key} {d : D}, Rels c F H ds vs A → lookD ks ds k = some d → ∃ v B, valV (ks.zip vs) k = some v ∧ Rel c F H d v B
  | [], ds, vs, A, k, d, r, e => by cases e
  | k0 :: ks, [], vs, A, k, d, r, e => by cases e
  | k0 :: ks, d0 :: ds, vs, A, k, d, r, e => by
    obtain ⟨v, ws, B, C, rfl, rfl, r1, r2⟩ := r
    have e : (if k0 = k then some d0 else lookD ks ds k) = some d := e
    by_cases hk : k0 = k
    · rw [if_pos hk] at e
      cases e
      exact ⟨v, B, by rw [List.zip_cons_cons]; exact valV_pos hk, r1⟩
    · rw [if_neg hk] at e
      obtain ⟨w, B', h1, h2⟩ := lookD_rel r2 e
      exact ⟨w, B', by rw [List.zip_cons_cons, valV_neg hk]; exact h1, h2⟩
theorem keyD_rel {F H : Hp} {d : D} {v : V} {A : List Addr} {k : Key} (e : keyD d = some k) (r : Rel c F H d v A) : v = kV k := by
  cases d <;> first | (cases e; done) | skip
  · cases e; exact r.1
  · cases e; exact r.1
def rIxA (K : PySem.W.Frag) : R2 := fun x y H Q => rIx K x y H Q ∨ ∃ a v, x = .ref a ∧ DGet H a y (some v) ∧ Q v H
theorem ix_dict (hu : X.A.units + 1 < cLine) : IxR X (fun x y H Q => ∃ a v, x = .ref a ∧ DGet H a y (some v) ∧ Q v H) := by
  intro value slice pins s σ H x y v u Q I rx ry h hs
  obtain ⟨a, z, rfl, g, q⟩ := h
  obtain rfl : v = Value.ref a := rx
  have hT := dict_typeIs I g
  unfold subscriptTail
  refine wpAny_bind ?_
  rw [getitemInPython_of_ne hT.not_modules]
  refine wpAny_bind (wpAny_specialOf hT PySem.F.slot_dict_getitem.lookup ?_)
  have fin : wpAny (model X.prog X.w) X.A (subscripted slice false (Value.ref a) u) (fun r s₃ => wpAny (model X.prog X.w) X.A (letTemporaryGo value (Value.ref a) r >>= fun _ => pure r) (EP X pins σ Q) X.xe s₃) X.xe s := by
    rw [hs]
    exact wpAny_operating (d_getItem hu I g ry fun w' s' I' rw' => wpAny_bind (wpAny_letTemporaryGo (wpAny_pure ⟨z, H, I', rw', q⟩)))
  first
    | exact wpAny_pure (wpAny_bind fin)
    | exact wpAny_bind (wpAny_pure (wpAny_bind fin))
    | exact wpAny_bind fin
theorem ix_sound : OpS c (rIxA c.K) ixD := by
  refine ⟨fun y => by cases y <;> rfl, fun x => by cases x <;> rfl, fun {F H x y dx dy A B d Q} e rx ry eg q => ?_⟩
  cases dx <;> first | (cases eg; done) | skip
  case str s =>
    cases dy <;> first | (cases eg; done) | skip
    rename_i i
    have eg : (if s.length ≤ 100000 then (atI s.cps.toList i).map (fun k => D.str ⟨#[k]⟩) else none) = some d := eg
    split at eg <;> first | (cases eg; done) | skip
    rename_i hl
    cases h : atI s.cps.toList i with
    | none => rw [h] at eg; cases eg
    | some k =>
      rw [h] at eg
      cases eg
      obtain ⟨rfl, _⟩ := rx
      obtain ⟨rfl, _⟩ := ry
      exact .inl (.inr (.inr ⟨s, i, k, rfl, rfl, size_ok hl, h, q _ _ _ [] (Grow.refl e) ⟨rfl, rfl⟩⟩))
  case tup xs =>
    cases dy <;> first | (cases eg; done) | skip
    rename_i i
    obtain ⟨h1, h2⟩ := plO_some eg
    obtain ⟨p, vs, rfl, h, r⟩ := rx
    obtain ⟨rfl, _⟩ := ry
    obtain ⟨v, B, h3, h4⟩ := r.atI h1
    have z := h4.pl_nil h2
    subst z
    exact .inl (.inr (.inl ⟨p, vs, i, v, rfl, rfl, sqT_sub e h, h3, q _ _ _ [] (Grow.refl e) h4⟩))
  case lst o xs =>
    cases dy <;> first | (cases eg; done) | skip
    rename_i i
    obtain ⟨h1, h2⟩ := plO_some eg
    obtain ⟨p, vs, B0, rfl, h, r, _⟩ := rel_lst e rx
    obtain ⟨rfl, _⟩ := ry
    obtain ⟨v, B, h3, h4⟩ := r.atI h1
    have z := h4.pl_nil h2
    subst z
    exact .inl (.inl ⟨p, vs, i, v, rfl, rfl, .inl (.inl h), h3, q _ _ _ [] (Grow.refl e) h4⟩)
  case scr ns =>
    cases dy <;> first | (cases eg; done) | skip
    rename_i i
    have eg : (atI ns i).map D.int = some d := eg
    cases h : atI ns i with
    | none => rw [h] at eg; cases eg
    | some k =>
      rw [h] at eg
      cases eg
      obtain ⟨p, rfl, h', _⟩ := rx
      obtain ⟨rfl, _⟩ := ry
      refine .inl (.inl ⟨p, ns.map V.int, i, .int k, rfl, rfl, sqL_mono e h', ?_, q _ _ _ [] (Grow.refl e) rel_int⟩)
      unfold L2.atI at h ⊢
      rw [List.length_map]
      cases h2 : ixN ns.length i with
      | none => rw [h2] at h; cases h
      | some j =>
        rw [h2] at h
        have h : ns[j]? = some k := h
        show (ns.map V.int)[j]? = some (.int k)
        rw [List.getElem?_map, h]
        rfl
  case dct o ks ds =>
    have eg : (keyD dy).bind (fun j => plO (lookD ks ds j)) = some d := by cases dy <;> exact eg
    cases hk : keyD dy with
    | none => rw [hk] at eg; cases eg
    | some k =>
      rw [hk] at eg
      obtain ⟨h1, h2⟩ := plO_some eg
      obtain ⟨p, vs, B0, rfl, h, _, r, _⟩ := rel_dct e rx
      obtain ⟨v, B, h3, h4⟩ := lookD_rel r h1
      have z := h4.pl_nil h2
      subst z
      have ey := keyD_rel hk ry
      subst ey
      refine .inr ⟨p, v, rfl, ?_, q _ _ _ [] (Grow.refl e) h4⟩
      rw [← h3]
      exact DGet.k h
theorem t_ixA (hK : c.K = X.K) (hu : X.A.units + 1 < cLine) (ha : Tr X c a f1) (hb : Tr X c b f2) (hp : PlainIx b := by exact fun _ _ => rfl) : Tr X c (.Subscript a b pos) (bin ixD f1 f2) :=
  t_ix (r := rIxA c.K) (by rw [hK]; exact ix_seq.or (ix_dict hu)) ix_sound ha hb hp

def pn : Den (Option Int) := fun τ => .ok none τ
def pso (f : Den Hdl) : Den (Option Int) := fun τ => (f τ).bind fun h τ1 => match h.get τ1 with
  | .int i => .ok (some i) τ1
  | _ => .bad
def tO (c : Ctx) (f : Den (Option Int)) (W : WX) : TO := fun σ H Q => ∃ τ F S, SA c F H σ τ S ∧ Post c (fun _ _ (a : Option Int) b A => b = a ∧ A = []) W F H σ S Q (f τ)
structure TrO (X : Cx) (c : Ctx) (e : Option Expr) (f : Den (Option Int)) : Prop where
  po : ∀ W, Takes X W → PO X e (tO c f W)
theorem po_mono {e : Option Expr} {t t' : TO} (h : PO X e t) (k : ∀ σ H Q, t' σ H Q → t σ H Q) : PO X e t' := ⟨fun pins s σ H Q I q => h.run pins s σ H Q I (k σ H Q q)⟩
theorem to_none : TrO X c none pn := by
  refine ⟨fun W _ => po_mono po_none fun σ H Q h => ?_⟩
  obtain ⟨τ, F, S, sa, h⟩ := h
  exact (show Post c (fun _ _ (a : Option Int) b A => b = a ∧ A = []) W F H σ S Q (.ok none τ) from h) none F H [] S Go.refl sa ⟨rfl, rfl⟩ sa.nd
theorem to_some (ha : Tr X c a f) : TrO X c (some a) (pso f) := by
  refine ⟨fun W tk => po_mono (po_some (ha.pe W tk)) fun σ H Q h => ?_⟩
  obtain ⟨τ, F, S, sa, h⟩ := h
  refine ⟨τ, F, S, sa, ?_⟩
  unfold pso at h
  cases e1 : f τ with
  | bad => rw [e1] at h; exact h
  | ex n d τ' => rw [e1] at h; exact h
  | ok h1 τ1 =>
    rw [e1] at h
    intro v1 F1 H1 A1 S1 g1 sa1 r1 nd1
    have h : Post c (fun _ _ (a : Option Int) b A => b = a ∧ A = []) W F H σ S Q (match h1.get τ1 with
      | .int i => .ok (some i) τ1
      | _ => .bad) := h
    rcases r1.get sa1 with z | ⟨B1, q1⟩
    · rw [z] at h; exact h.elim
    · cases eg : h1.get τ1 <;> rw [eg] at h q1 <;> first | exact h.elim | skip
      obtain ⟨rfl, _⟩ := q1
      exact ⟨_, rfl, h _ F1 H1 [] S1 (Go.less g1 fun b hb => List.mem_append_right _ hb) sa1 ⟨rfl, rfl⟩ sa1.nd⟩
def cutD (xs : List D) (lo hi : Option Int) : List D := (xs.drop (HT.sIx xs.length 0 lo)).take (HT.sIx xs.length xs.length hi - HT.sIx xs.length 0 lo)
def slcD (d : D) (lo hi : Option Int) : Option D := match d with
  | .tup xs => if D.pls xs then some (.tup (cutD xs lo hi)) else none
  | .lst _ xs => if D.pls xs then some (.lst true (cutD xs lo hi)) else none
  | .str s => if s.length ≤ 100000 then some (.str (cutS s lo hi)) else none
  | _ => none
def slc (f : Den Hdl) (l h : Den (Option Int)) : Den Hdl := fun τ => (f τ).bind fun x τ1 => (l τ1).bind fun lo τ2 => (h τ2).bind fun hi τ3 => match slcD (x.get τ3) lo hi with
  | some d => .ok (.val d) τ3
  | none => .bad
theorem Rels.drop {F H : Hp} : ∀ {ds : List D} {vs : List V} (n : Nat), Rels c F H ds vs [] → Rels c F H (ds.drop n) (vs.drop n) []
  | ds, vs, 0, r => r
  | [], vs, n + 1, r => by obtain ⟨rfl, _⟩ := r; exact Rels.nil
  | d :: ds, vs, n + 1, r => by
    obtain ⟨v, ws, B, C, rfl, e, r1, r2⟩ := r
    have z := List.append_eq_nil_iff.mp e.symm
    obtain ⟨rfl, rfl⟩ := z
    exact Rels.drop n r2
theorem Rels.take {F H : Hp} : ∀ {ds : List D} {vs : List V} (n : Nat), Rels c F H ds vs [] → Rels c F H (ds.take n) (vs.take n) []
  | ds, vs, 0, r => by rw [List.take_zero, List.take_zero]; exact Rels.nil
  | [], vs, n + 1, r => by obtain ⟨rfl, _⟩ := r; exact Rels.nil
  | d :: ds, vs, n + 1, r => by
    obtain ⟨v, ws, B, C, rfl, e, r1, r2⟩ := r
    have z := List.append_eq_nil_iff.mp e.symm
    obtain ⟨rfl, rfl⟩ := z
    exact ⟨v, ws.take n, [], [], rfl, rfl, r1, Rels.take n r2⟩
theorem cut_rel {F H : Hp} {ds : List D} {vs : List V} {lo hi : Option Int} (r : Rels c F H ds vs []) : Rels c F H (cutD ds lo hi) (cutV vs lo hi) [] := by
  unfold cutD cutV
  rw [r.length]
  exact (r.drop _).take _
theorem cutD_whole {ds : List D} {lo hi : Option Int} (h : HT.sIx ds.length 0 lo = 0 ∧ HT.sIx ds.length ds.length hi = ds.length) : cutD ds lo hi = ds := by
  unfold cutD
  rw [h.1, h.2, List.drop_zero, Nat.sub_zero, List.take_length]
def rSlc (K : PySem.W.Frag) : V → Option Int → Option Int → Hp → VK → Prop := fun x lo hi H Q => (rSlA K x lo hi H Q ∨ rSlL K x lo hi H Q) ∨ rSlS x lo hi H Q
theorem slc_core {F H : Hp} {x : V} {dx d : D} {A : List Addr} {lo hi : Option Int} {Q : VK} (e : ∀ b o, F b = some o → H b = some o) (rx : Rel c F H dx x A) (eg : slcD dx lo hi = some d)
    (q : ∀ v F' H' N, Grow F H F' H' N → Rel c F' H' d v N → Q v H') : rSlc c.K x lo hi H Q := by
  cases dx <;> first | (cases eg; done) | skip
  · rename_i s
    have eg : (if s.length ≤ 100000 then some (D.str (cutS s lo hi)) else none) = some d := eg
    split at eg <;> cases eg
    rename_i hl
    obtain ⟨rfl, _⟩ := rx
    exact .inr ⟨s, rfl, size_ok hl, q _ _ _ [] (Grow.refl e) ⟨rfl, rfl⟩⟩
  · rename_i xs
    have eg : (if D.pls xs then some (D.tup (cutD xs lo hi)) else none) = some d := eg
    split at eg <;> cases eg
    rename_i hp
    obtain ⟨p, vs, rfl, h, r⟩ := rx
    have z := r.pl_nil hp
    subst z
    refine .inl (.inl ⟨p, vs, rfl, sqT_sub e h, fun z => ?_, fun _ l hl => ?_⟩)
    · rw [r.length] at z
      rw [cutD_whole z] at q
      exact q _ _ _ [] (Grow.refl e) ⟨p, vs, rfl, h, r⟩
    · obtain ⟨g, rr⟩ := rel_newT e (cut_rel r) hl
      exact q _ _ _ [] g rr
  · rename_i o xs
    have eg : (if D.pls xs then some (D.lst true (cutD xs lo hi)) else none) = some d := eg
    split at eg <;> cases eg
    rename_i hp
    obtain ⟨p, vs, B, rfl, h, r, _⟩ := rel_lst e rx
    have z := r.pl_nil hp
    subst z
    refine .inl (.inr ⟨p, vs, rfl, .inl (.inl h), fun l hl => ?_⟩)
    obtain ⟨g, rr⟩ := rel_new e (cut_rel r) hl
    exact q _ _ _ [l] g rr
theorem t_slc {lo hi : Option Expr} {l h : Den (Option Int)} {p2 : Pos} (hK : c.K = X.K) (ha : Tr X c a f) (hl : TrO X c lo l) (hh : TrO X c hi h) : Tr X c (.Subscript a (.Slice lo hi none p2) pos) (slc f l h) := by
  refine ⟨fun W tk => pe_mono (pe_slice (r := rSlc c.K) (by rw [hK]; exact (sl_tupA.or sl_list).or sl_str) (ha.pe W tk) (hl.po W tk) (hh.po W tk)) fun σ H Q q => ?_⟩
  obtain ⟨τ, F, S, sa, q⟩ := q
  refine ⟨τ, F, S, sa, ?_⟩
  unfold slc at q
  cases e1 : f τ with
  | bad => rw [e1] at q; exact q
  | ex n d τ' => rw [e1] at q; exact q
  | ok x τ1 =>
    rw [e1] at q
    intro v1 F1 H1 A1 S1 g1 sa1 r1 nd1
    refine ⟨τ1, F1, S1, sa1, ?_⟩
    have q : Post c (fun F H => RelH c F H σ) W F H σ S Q ((l τ1).bind fun lo τ2 => (h τ2).bind fun hi τ3 => match slcD (x.get τ3) lo hi with
      | some d => .ok (.val d) τ3
      | none => .bad) := q
    have q := Post.step g1 q
    cases e2 : l τ1 with
    | bad => rw [e2] at q; exact q
    | ex n d τ' => rw [e2] at q; exact q
    | ok lo' τ2 =>
      rw [e2] at q
      intro v2 F2 H2 A2 S2 g2 sa2 r2 nd2
      obtain ⟨rfl, rfl⟩ := r2
      refine ⟨τ2, F2, S2, sa2, ?_⟩
      have q : Post c (fun F H => RelH c F H σ) W F1 H1 σ S1 Q ((h τ2).bind fun hi τ3 => match slcD (x.get τ3) v2 hi with
        | some d => .ok (.val d) τ3
        | none => .bad) := q
      have q := Post.step (A := []) g2 q
      have r1' := r1.hand g2 nd1
      have nd1' : (A1 ++ S2).Nodup := nodup_hand g2 r1.owned nd1 sa2.nd
      cases e3 : h τ2 with
      | bad => rw [e3] at q; exact q
      | ex n d τ' => rw [e3] at q; exact q
      | ok hi' τ3 =>
        rw [e3] at q
        intro v3 F3 H3 A3 S3 g3 sa3 r3 nd3
        obtain ⟨rfl, rfl⟩ := r3
        have q : Post c (fun F H => RelH c F H σ) W F2 H2 σ S2 Q (match slcD (x.get τ3) v2 v3 with
          | some d => .ok (.val d) τ3
          | none => .bad) := q
        have q := Post.step (A := []) g3 q
        have r1'' := r1'.hand g3 nd1'
        cases eg : slcD (x.get τ3) v2 v3 with
        | none => rw [eg] at q; exact q.elim
        | some d =>
          rw [eg] at q
          rcases r1''.get sa3 with z | ⟨B1, w1⟩
          · rw [z] at eg
            cases eg
          exact slc_core sa3.ex w1 eg fun v F' H' N gr rr => Post.grow (a := Hdl.val d) sa3 q gr rr
end
end Y
end

section
set_option Elab.async false
set_option linter.all false
set_option maxRecDepth 100000
set_option maxHeartbeats 4000000
/-! Y5: statements. -/
namespace Y
open PySem PySem.Spec PyProof.Rows L2

inductive Fl where
  | nx (τ : List D) | rt (d : D) (τ : List D) | bk (τ : List D) | ct (τ : List D) | ex (n : Str) (d : D) (τ : List D) | bad
abbrev SDen := List D → Fl
def PostS (c : Ctx) (W : WX) (E : Ends) (F H : Hp) (S : List Addr) : Fl → Prop
  | .nx τ' => ∀ σ' F' H' S', Go F H S F' H' S' → SA c F' H' σ' τ' S' → E.nx σ' H'
  | .bk τ' => ∀ σ' F' H' S', Go F H S F' H' S' → SA c F' H' σ' τ' S' → E.bk σ' H'
  | .ct τ' => ∀ σ' F' H' S', Go F H S F' H' S' → SA c F' H' σ' τ' S' → E.ct σ' H'
  | .rt d τ' => ∀ v σ' F' H' A S', Go F H S F' H' (A ++ S') → SA c F' H' σ' τ' S' → Rel c F' H' d v A → (A ++ S').Nodup → E.rt v H'
  | .ex n d τ' => ∀ cv dx σ' F' H' S', Go F H S F' H' S' → SA c F' H' σ' τ' S' → ExP c F' H' n d cv dx → W cv dx σ' H'
  | .bad => False
def tS (c : Ctx) (f : SDen) (W : WX) : TS := fun E σ H => ∃ τ F S, SA c F H σ τ S ∧ PostS c W E F H S (f τ)
structure Ts (X : Cx) (c : Ctx) (st : Stmt) (f : SDen) : Prop where
  ps : ∀ W, Takes X W → PS X st (tS c f W)
structure Tss (X : Cx) (c : Ctx) (sts : List Stmt) (f : SDen) : Prop where
  pss : ∀ W, Takes X W → PSs X sts (tS c f W)
theorem ps_mono {X : Cx} {e : Stmt} {t t' : TS} (h : PS X e t) (k : ∀ E σ H, t' E σ H → t E σ H) : PS X e t' := ⟨fun pins s σ H E I q => h.run pins s σ H E I (k E σ H q)⟩
theorem pss_mono {X : Cx} {e : List Stmt} {t t' : TS} (h : PSs X e t) (k : ∀ E σ H, t' E σ H → t E σ H) : PSs X e t' := ⟨fun pins s σ H E I q => h.run pins s σ H E I (k E σ H q)⟩

section
variable {c : Ctx} {F H F1 H1 F2 H2 : Hp} {σ : L2.St} {τ τ1 : List D} {S S1 A B : List Addr} {W : WX} {E : Ends}
theorem PostS.step (g : Go F H S F1 H1 (A ++ S1)) : ∀ {r : Fl}, PostS c W E F H S r → PostS c W E F1 H1 S1 r
  | .nx _, h => fun σ' F' H' S' go sa => h σ' F' H' S' (Go.less (Go.trans g go) fun b hb => List.mem_append_right _ hb) sa
  | .bk _, h => fun σ' F' H' S' go sa => h σ' F' H' S' (Go.less (Go.trans g go) fun b hb => List.mem_append_right _ hb) sa
  | .ct _, h => fun σ' F' H' S' go sa => h σ' F' H' S' (Go.less (Go.trans g go) fun b hb => List.mem_append_right _ hb) sa
  | .rt _ _, h => fun v σ' F' H' B S' go sa r nd => h v σ' F' H' B S' (Go.less (Go.trans g go) fun b hb => List.mem_append_right _ hb) sa r nd
  | .ex _ _ _, h => fun cv dx σ' F' H' S' go sa x => h cv dx σ' F' H' S' (Go.less (Go.trans g go) fun b hb => List.mem_append_right _ hb) sa x
  | .bad, h => h
theorem PostS.ends {E' : Ends} (h1 : ∀ σ H, E.nx σ H → E'.nx σ H) (h2 : ∀ v H, E.rt v H → E'.rt v H) (h3 : ∀ σ H, E.bk σ H → E'.bk σ H) (h4 : ∀ σ H, E.ct σ H → E'.ct σ H) : ∀ {r : Fl}, PostS c W E F H S r → PostS c W E' F H S r
  | .nx _, h => fun σ' F' H' S' go sa => h1 _ _ (h σ' F' H' S' go sa)
  | .bk _, h => fun σ' F' H' S' go sa => h3 _ _ (h σ' F' H' S' go sa)
  | .ct _, h => fun σ' F' H' S' go sa => h4 _ _ (h σ' F' H' S' go sa)
  | .rt _ _, h => fun v σ' F' H' B S' go sa r nd => h2 _ _ (h v σ' F' H' B S' go sa r nd)
  | .ex _ _ _, h => h
  | .bad, h => h
/-- a slot gets a value -/
theorem SA.put (sa : SA c F H σ τ S) {i : Nat} {d : D} {v : V} (r : Rel c F H d v A) (nd : (A ++ S).Nodup) (hf : c.fx i = false) : ∃ S', SA c F H (σ.set i (some v)) (τ.set i d) S' ∧ ∀ b ∈ S', b ∈ A ++ S := by
  have fx : ∀ j, c.fx j = true → (σ.set i (some v))[j]? = c.σ0[j]? := fun j hj => by
    have ne : i ≠ j := fun z => by
      subst z
      rw [hf] at hj
      cases hj
    rw [List.getElem?_set_ne ne]
    exact sa.fx j hj
  cases hi : τ[i]? with
  | none =>
    have l1 := sa.sl.length
    have l2 := List.getElem?_eq_none_iff.mp hi
    refine ⟨S, ⟨sa.ex, sa.nt, sa.fb, sa.tb, ?_, sa.nd, fx⟩, fun b hb => List.mem_append_right _ hb⟩
    rw [List.set_eq_of_length_le (by omega), List.set_eq_of_length_le (by omega)]
    exact sa.sl
  | some d0 =>
    obtain ⟨x, A0, B1, B2, e1, rfl, r1, k⟩ := Slots.at sa.sl hi
    have n1 := List.nodup_append.mp nd
    have n2 := List.nodup_append.mp n1.2.1
    have n3 := List.nodup_append.mp n2.2.1
    refine ⟨B1 ++ (A ++ B2), ⟨sa.ex, sa.nt, sa.fb, sa.tb, k F H (some v) d A (fun _ _ h => h) (fun b hb => ⟨rfl, (sa.owned b ?_).1⟩) (slotR_mk r), ?_, fx⟩, fun b hb => ?_⟩
    · rcases List.mem_append.mp hb with y | y
      · exact List.mem_append_left _ y
      · exact List.mem_append_right _ (List.mem_append_right _ y)
    · refine List.nodup_append.mpr ⟨n2.1, List.nodup_append.mpr ⟨n1.1, n3.2.1, fun x hx y hy => n1.2.2 x hx y (List.mem_append_right _ (List.mem_append_right _ hy))⟩, fun x hx y hy z => ?_⟩
      subst z
      rcases List.mem_append.mp hy with hy | hy
      · exact n1.2.2 x hy x (List.mem_append_left _ hx) rfl
      · exact n2.2.2 x hx x (List.mem_append_right _ hy) rfl
    · rcases List.mem_append.mp hb with y | y
      · exact List.mem_append_right _ (List.mem_append_left _ y)
      · rcases List.mem_append.mp y with y | y
        · exact List.mem_append_left _ y
        · exact List.mem_append_right _ (List.mem_append_right _ (List.mem_append_right _ y))
/-- a slot is forgotten; what it held is in hand -/
theorem SA.take (sa : SA c F H σ τ S) {i : Nat} {d : D} (hi : τ[i]? = some d) (hd : d ≠ .un) : ∃ v A S', σ[i]? = some (some v) ∧ Rel c F H d v A ∧ SA c F H σ (τ.set i .un) S' ∧ (A ++ S').Nodup ∧ ∀ b, b ∈ A ++ S' ↔ b ∈ S := by
  obtain ⟨x, A0, B1, B2, e1, rfl, r1, k⟩ := Slots.at sa.sl hi
  rcases slotR_of r1 with ⟨z, _⟩ | ⟨v, rfl, r⟩
  · exact absurd z hd
  have n2 := List.nodup_append.mp sa.nd
  have n3 := List.nodup_append.mp n2.2.1
  refine ⟨v, A0, B1 ++ B2, e1, r, ⟨sa.ex, sa.nt, sa.fb, sa.tb, ?_, ?_, sa.fx⟩, ?_, fun b => ?_⟩
  · have q := k F H (some v) .un [] (fun _ _ h => h) (fun b hb => ⟨rfl, (sa.owned b ?_).1⟩) rfl
    · rw [set_same e1] at q
      simpa using q
    · rcases List.mem_append.mp hb with y | y
      · exact List.mem_append_left _ y
      · exact List.mem_append_right _ (List.mem_append_right _ y)
  · exact List.nodup_append.mpr ⟨n2.1, n3.2.1, fun x hx y hy => n2.2.2 x hx y (List.mem_append_right _ hy)⟩
  · refine List.nodup_append.mpr ⟨n3.1, List.nodup_append.mpr ⟨n2.1, n3.2.1, fun x hx y hy => n2.2.2 x hx y (List.mem_append_right _ hy)⟩, fun x hx y hy z => ?_⟩
    subst z
    rcases List.mem_append.mp hy with hy | hy
    · exact n2.2.2 x hy x (List.mem_append_left _ hx) rfl
    · exact n3.2.2 x hx x hy rfl
  · simp only [List.mem_append]
    constructor
    · rintro (h | h | h)
      · exact .inr (.inl h)
      · exact .inl h
      · exact .inr (.inr h)
    · rintro (h | h | h)
      · exact .inr (.inl h)
      · exact .inl h
      · exact .inr (.inr h)
end

/-- from an expression's end to a statement's -/
def onE (r : Rz Hdl) (k : Hdl → List D → Fl) : Fl := match r with
  | .ok h τ => k h τ
  | .ex n d τ => .ex n d τ
  | .bad => .bad
def onT (r : Rz Bool) (k : Bool → List D → Fl) : Fl := match r with
  | .ok h τ => k h τ
  | .ex n d τ => .ex n d τ
  | .bad => .bad
section
variable {X : Cx} {c : Ctx} {a b e : Expr} {rest es : List Expr} {f f1 f2 f3 : Den Hdl} {g : Den (List Hdl)} {pos : Pos} {st : Stmt} {sts sts2 : List Stmt} {p q : SDen} {t : Den Bool}
/-- an expression within a statement: what must hold behind it -/
theorem onE_sound {W : WX} {E : Ends} {σ : L2.St} {H : Hp} {k : Hdl → List D → Fl} {R : VK} (h : tS c (fun τ => onE (f τ) k) W E σ H)
    (hk : ∀ {h : Hdl} {τ1 : List D} {v : V} {F1 H1 : Hp} {A S1 : List Addr}, SA c F1 H1 σ τ1 S1 → RelH c F1 H1 σ h v A → (A ++ S1).Nodup → PostS c W E F1 H1 (A ++ S1) (k h τ1) → R v H1) : tE c f W σ H R := by
  obtain ⟨τ, F, S, sa, h⟩ := h
  refine ⟨τ, F, S, sa, ?_⟩
  have h : PostS c W E F H S (onE (f τ) k) := h
  cases e1 : f τ with
  | bad => rw [e1] at h; exact h
  | ex n d τ' =>
    rw [e1] at h
    intro cv dx F' H' S' go sa' x
    exact (show PostS c W E F H S (.ex n d τ') from h) cv dx σ F' H' S' go sa' x
  | ok h1 τ1 =>
    rw [e1] at h
    intro v1 F1 H1 A1 S1 g1 sa1 r1 nd1
    exact hk sa1 r1 nd1 (PostS.step (A := []) g1 (show PostS c W E F H S (k h1 τ1) from h))
theorem onT_sound {W : WX} {E : Ends} {σ : L2.St} {H : Hp} {k : Bool → List D → Fl} {R : Bool → Hp → Prop} (h : tS c (fun τ => onT (t τ) k) W E σ H)
    (hk : ∀ {b : Bool} {τ1 : List D} {F1 H1 : Hp} {S1 : List Addr}, SA c F1 H1 σ τ1 S1 → PostS c W E F1 H1 S1 (k b τ1) → R b H1) : tT c t W σ H R := by
  obtain ⟨τ, F, S, sa, h⟩ := h
  refine ⟨τ, F, S, sa, ?_⟩
  have h : PostS c W E F H S (onT (t τ) k) := h
  cases e1 : t τ with
  | bad => rw [e1] at h; exact h
  | ex n d τ' =>
    rw [e1] at h
    intro cv dx F' H' S' go sa' x
    exact (show PostS c W E F H S (.ex n d τ') from h) cv dx σ F' H' S' go sa' x
  | ok h1 τ1 =>
    rw [e1] at h
    intro v1 F1 H1 A1 S1 g1 sa1 r1 nd1
    obtain ⟨rfl, rfl⟩ := r1
    exact hk sa1 (PostS.step (A := []) g1 (show PostS c W E F H S (k v1 τ1) from h))

/-! ### blocks, small statements -/
def sNil : SDen := .nx
def sq (f g : SDen) : SDen := fun τ => match f τ with
  | .nx τ1 => g τ1
  | r => r
theorem ss_nil : Tss X c [] sNil := by
  refine ⟨fun W _ => pss_mono pss_nil fun E σ H h => ?_⟩
  obtain ⟨τ, F, S, sa, h⟩ := h
  exact (show PostS c W E F H S (.nx τ) from h) σ F H S Go.refl sa
theorem ss_cons (h1 : Ts X c st p) (h2 : Tss X c sts q) : Tss X c (st :: sts) (sq p q) := by
  refine ⟨fun W tk => pss_mono (pss_cons (h1.ps W tk) (h2.pss W tk)) fun E σ H h => ?_⟩
  obtain ⟨τ, F, S, sa, h⟩ := h
  refine ⟨τ, F, S, sa, ?_⟩
  unfold sq at h
  cases e1 : p τ with
  | nx τ1 =>
    rw [e1] at h
    intro σ1 F1 H1 S1 g1 sa1
    exact ⟨τ1, F1, S1, sa1, PostS.step (A := []) g1 h⟩
  | bk τ1 => rw [e1] at h; exact h
  | ct τ1 => rw [e1] at h; exact h
  | rt d τ1 => rw [e1] at h; exact h
  | ex n d τ1 => rw [e1] at h; exact h
  | bad => rw [e1] at h; exact h
theorem ss_one (h1 : Ts X c st p) : Tss X c [st] p := ⟨fun W tk => pss_one (h1.ps W tk)⟩
theorem s_pass : Ts X c (.Pass pos) sNil := by
  refine ⟨fun W _ => ps_mono ps_pass fun E σ H h => ?_⟩
  obtain ⟨τ, F, S, sa, h⟩ := h
  exact (show PostS c W E F H S (.nx τ) from h) σ F H S Go.refl sa
theorem s_break : Ts X c (.Break pos) .bk := by
  refine ⟨fun W _ => ps_mono ps_break fun E σ H h => ?_⟩
  obtain ⟨τ, F, S, sa, h⟩ := h
  exact (show PostS c W E F H S (.bk τ) from h) σ F H S Go.refl sa
theorem s_continue : Ts X c (.Continue pos) .ct := by
  refine ⟨fun W _ => ps_mono ps_continue fun E σ H h => ?_⟩
  obtain ⟨τ, F, S, sa, h⟩ := h
  exact (show PostS c W E F H S (.ct τ) from h) σ F H S Go.refl sa
def sExpr (f : Den Hdl) : SDen := fun τ => onE (f τ) fun _ τ1 => .nx τ1
theorem s_expr (he : Tr X c e f) (hs : swapsWith e none pos.line X.env = pure false := by rfl) : Ts X c (.Expr e pos) (sExpr f) := by
  refine ⟨fun W tk => ps_mono (ps_expr (he.pe W tk) hs) fun E σ H h => ?_⟩
  refine onE_sound h fun {h τ1 v F1 H1 A S1} sa r nd q => ?_
  exact (show PostS c W E F1 H1 (A ++ S1) (.nx τ1) from q) σ F1 H1 S1 (Go.less Go.refl fun b hb => List.mem_append_right _ hb) sa
def sRet (f : Den Hdl) : SDen := fun τ => onE (f τ) fun h τ1 => match h with
  | .val d => .rt d τ1
  | .slot i => match τ1[i]? with
    | some .un => .bad
    | some d => .rt d (τ1.set i .un)
    | none => .bad
theorem s_ret (he : Tr X c e f) : Ts X c (.Return (some e) pos) (sRet f) := by
  refine ⟨fun W tk => ps_mono (ps_ret (he.pe W tk)) fun E σ H h => ?_⟩
  refine onE_sound h fun {h τ1 v F1 H1 A S1} sa r nd q => ?_
  cases h with
  | val d => exact (show PostS c W E F1 H1 (A ++ S1) (.rt d τ1) from q) v σ F1 H1 A S1 Go.refl sa r nd
  | slot i =>
    obtain ⟨e1, rfl⟩ := r
    have q : PostS c W E F1 H1 S1 (match τ1[i]? with
      | some .un => .bad
      | some d => .rt d (τ1.set i .un)
      | none => .bad) := q
    cases hi : τ1[i]? with
    | none => rw [hi] at q; exact q.elim
    | some d =>
      rw [hi] at q
      have hn : d ≠ .un := fun z => by subst z; exact q.elim
      obtain ⟨v', A', S', e2, rr, sa', nd', hm⟩ := sa.take hi hn
      rw [e1] at e2
      cases e2
      have q' : PostS c W E F1 H1 S1 (.rt d (τ1.set i .un)) := by
        cases d <;> first | exact q | exact (hn rfl).elim
      exact q' v σ F1 H1 A' S' (Go.less Go.refl fun b hb => (hm b).mp hb) sa' rr nd'
def sRetN : SDen := fun τ => .rt .non τ
theorem s_retN : Ts X c (.Return none pos) sRetN := by
  refine ⟨fun W _ => ps_mono ps_retN fun E σ H h => ?_⟩
  obtain ⟨τ, F, S, sa, h⟩ := h
  exact (show PostS c W E F H S (.rt .non τ) from h) .non σ F H [] S Go.refl sa ⟨rfl, rfl⟩ sa.nd
def sIf (t : Den Bool) (p q : SDen) : SDen := fun τ => onT (t τ) fun b τ1 => if b = true then p τ1 else q τ1
theorem s_if (ht : TrT X c e t) (h1 : Tss X c sts p) (h2 : Tss X c sts2 q) : Ts X c (.If e sts sts2 pos) (sIf t p q) := by
  refine ⟨fun W tk => ps_mono (ps_if (ht.pt W tk) (h1.pss W tk) (h2.pss W tk)) fun E σ H h => ?_⟩
  refine onT_sound h fun {b τ1 F1 H1 S1} sa q => ?_
  cases b with
  | true => exact iteT ⟨τ1, F1, S1, sa, q⟩
  | false => exact iteF ⟨τ1, F1, S1, sa, q⟩
/-- x = e -/
def sSet (i : Nat) (f : Den Hdl) : SDen := fun τ => onE (f τ) fun h τ1 => match h with
  | .val d => .nx (τ1.set i d)
  | .slot _ => .bad
theorem sSet_sound {i : Nat} {W : WX} {E : Ends} {σ : L2.St} {H : Hp} (hf : c.fx i = false) (h : tS c (sSet i f) W E σ H) : tE c f W σ H fun x H1 => E.nx (σ.set i (some x)) H1 := by
  refine onE_sound h fun {h τ1 v F1 H1 A S1} sa r nd q => ?_
  cases h with
  | slot j => exact q.elim
  | val d =>
    obtain ⟨S', sa', hm⟩ := sa.put r nd hf
    exact (show PostS c W E F1 H1 (A ++ S1) (.nx (τ1.set i d)) from q) _ F1 H1 S' (Go.less Go.refl hm) sa'
theorem s_set {i : Nat} {x : Str} {p' : Pos} (hN : X.N.Nodup) (hi : X.N[i]? = some x) (hx : Loc X.env.scope x) (hf : c.fx i = false) (he : Tr X c e f) (hs : swapsWith e (some (.Name x p')) pos.line X.env = pure false := by rfl)
    (hfn : X.fn x = true ∨ X.env.scope.names.lookup x = some .local := by first | exact .inl rfl | exact .inr rfl | assumption) : Ts X c (.Assign [.Name x p'] e pos) (sSet i f) :=
  ⟨fun W tk => ps_mono (ps_set hN hi hx (he.pe W tk) hs hfn) fun E σ H h => sSet_sound hf h⟩

/-! ### while -/
def sWhile : Nat → Den Bool → SDen → SDen
  | 0, _, _ => fun _ => .bad
  | n + 1, t, p => fun τ => onT (t τ) fun b τ1 => if b = true then (match p τ1 with
    | .nx τ2 => sWhile n t p τ2
    | .ct τ2 => sWhile n t p τ2
    | .bk τ2 => .nx τ2
    | r => r) else .nx τ1
theorem s_while {n : Nat} (hp : PassesOwn (model X.prog X.w) X.A X.env X.xe) (ht : TrT X c e t) (h1 : Tss X c sts p) : Ts X c (.While e sts [] pos) (sWhile n t p) := by
  refine ⟨fun W tk => ps_mono (ps_while hp (ht.pt W tk) (h1.pss W tk)) fun E σ H h => ?_⟩
  refine ⟨fun m σ' H' => tS c (sWhile m t p) W E σ' H', ⟨n, h⟩, fun m σ' H' h => ?_⟩
  cases m with
  | zero =>
    obtain ⟨τ, F, S, sa, h⟩ := h
    exact h.elim
  | succ m =>
    refine onT_sound h fun {b τ1 F1 H1 S1} sa q => ?_
    cases b with
    | false => exact iteF ((show PostS c W E F1 H1 S1 (.nx τ1) from q) σ' F1 H1 S1 Go.refl sa)
    | true =>
      refine iteT ⟨fun σ2 H2 => tS c (sWhile m t p) W E σ2 H2, fun σ2 H2 h2 => ⟨m, Nat.lt_succ_self m, h2⟩, τ1, F1, S1, sa, ?_⟩
      have q : PostS c W E F1 H1 S1 (match p τ1 with
        | .nx τ2 => sWhile m t p τ2
        | .ct τ2 => sWhile m t p τ2
        | .bk τ2 => .nx τ2
        | r => r) := q
      cases e1 : p τ1 with
      | nx τ2 =>
        rw [e1] at q
        exact fun σ2 F2 H2 S2 go sa2 => ⟨τ2, F2, S2, sa2, PostS.step (A := []) go q⟩
      | ct τ2 =>
        rw [e1] at q
        exact fun σ2 F2 H2 S2 go sa2 => ⟨τ2, F2, S2, sa2, PostS.step (A := []) go q⟩
      | bk τ2 => rw [e1] at q; exact q
      | rt d τ2 => rw [e1] at q; exact q
      | ex x d τ2 => rw [e1] at q; exact q
      | bad => rw [e1] at q; exact q
end
end Y
end

section
set_option Elab.async false
set_option linter.all false
set_option maxRecDepth 100000
set_option maxHeartbeats 4000000
/-! YE: enumerate over a tuple. -/
namespace PySem
open Sem (wp)
open AutoSeq1 (wpAny_loadPart')
theorem meets_enumerate_newT (l : Addr) (items : Array Value) (n : Nat) (dct : Option Addr) (sl : Array (Option Value)) :
    Meets (Builtin.«enumerate.__new__» ⟨[.type "enumerate", .ref l], []⟩) (fun _ R s => s.heap.get? l = some { cls := .type "tuple", dict := dct, data := .seq items n, slots := sl } ∧
      R (.ok (.ret (.ref (s.heap.push { cls := .type "tuple_iterator", data := .fields #[.ref l, .int 0 0] }).objs.size)))
        { s with heap := (s.heap.push { cls := .type "tuple_iterator", data := .fields #[.ref l, .int 0 0] }).push { cls := .type "enumerate", data := .fields #[.none, .bool false, .ref s.heap.objs.size, rawInt 0, .none, .none] } }) :=
  .of_wp fun prog w A R s h => by
    obtain ⟨hp, g, d, tk, os⟩ := s; obtain ⟨hl, h⟩ := h
    have hsub := sub_enumerate
    have hL : Heap.IsTuple (Shared.heap ⟨hp, g, d, tk, os⟩) l items := ⟨_, hl, rfl, n, rfl⟩
    wp_walk using wpAny_loadPart' hl
    refine wpAny_stack_any fun st => wpAny_pure ?_
    split
    · rename_i c _ _ _ _ _
      cases (c == Value.type "enumerate")
      · wp_walk using wpAny_loadPart' hl, wpAny_pyIter_tuple hL
        exact ⟨_, rfl, h⟩
      · wp_walk using wpAny_loadPart' hl, wpAny_pyIter_tuple hL
        exact ⟨_, rfl, h⟩
    · wp_walk using wpAny_loadPart' hl, wpAny_pyIter_tuple hL
      exact ⟨_, rfl, h⟩
section
variable {prog : Program} {w : World} {A : Around} {E : Value → Shared → Prop} {s : Shared}
theorem call_enumerate_tup {l : Addr} {items : Array Value} {Q : Value → Shared → Prop} (hL : s.heap.IsTuple l items)
    (h : ∀ h', IsEnum h' (s.heap.objs.size + 1) s.heap.objs.size 0 .none → h'.IsTupleIter s.heap.objs.size l 0 → h'.objs.size = s.heap.objs.size + 2 →
      (∀ b o, s.heap.get? b = some o → h'.get? b = some o) → Q (.ref (s.heap.objs.size + 1)) { s with heap := h' }) :
    wpAny (model prog w) A (call (.type "enumerate") [.ref l]) Q E s := by
  obtain ⟨⟨c, dct, dt, sl⟩, hl, hc, n, hd⟩ := hL
  replace hc : c = .type "tuple" := hc
  replace hd : dt = .seq items n := hd
  subst hc hd
  refine callType_new F.called_enumerate (by decide) (F.typeCall_enumerate_1 _) (F.newCall_enumerate_1 _) (fun obj => F.args_object_init_2 obj _) F.entry_enumerate_new
    (meets_enumerate_newT l items n dct sl) ⟨hl, ?_⟩
  have hz : (s.heap.push { cls := .type "tuple_iterator", data := .fields #[.ref l, .int 0 0] }).objs.size = s.heap.objs.size + 1 := Heap.size_push ..
  show _ ∧ _
  rw [hz]
  have he : IsEnum ((s.heap.push { cls := .type "tuple_iterator", data := .fields #[.ref l, .int 0 0] }).push
      { cls := .type "enumerate", data := .fields #[.none, .bool false, .ref s.heap.objs.size, rawInt 0, .none, .none] }) (s.heap.objs.size + 1) s.heap.objs.size 0 .none := by
    have := Heap.get?_push_size (s.heap.push { cls := .type "tuple_iterator", data := .fields #[.ref l, .int 0 0] })
      (o := { cls := .type "enumerate", data := .fields #[.none, .bool false, .ref s.heap.objs.size, rawInt 0, .none, .none] }) rfl
    rw [hz] at this; exact this
  refine ⟨⟨_, he, rfl⟩, h _ he ⟨_, Heap.get?_push_of_some _ (Heap.get?_push_size _ rfl), rfl, rfl⟩ (by rw [Heap.size_push, hz]) fun b o x => Heap.get?_push_of_some _ (Heap.get?_push_of_some _ x)⟩
theorem wpAny_pyNext_enum_endT {e it l : Addr} {i : Nat} {items : Array Value} {old : Value} {Q : Option Value → Shared → Prop} (hh : A.handled = none)
    (he : IsEnum s.heap e it i old) (hit : s.heap.IsTupleIter it l i) (hl : s.heap.IsTuple l items) (hx : items[i]? = none)
    (hQ : ∀ h', Heap.ExtBut it s.heap h' → Q none { s with heap := h' }) : wpAny (model prog w) A (pyNext (.ref e)) Q E s := by
  have hT : s.TypeIs (.ref e) "enumerate" := ⟨_, he, rfl⟩
  unfold pyNext
  refine wpAny_bind (wpAny_attempt (wpAny_callSpecial?_slot (name := Str.ofString "__next__") hT F.slot_enumerate_next
    (wpAny_call_entry F.slot_enumerate_next hT F.entry_enumerate_next ?_ (F.args_enumerate_next_1 _))))
  show wpAny _ _ (field (.ref e) 2 >>= _) _ _ _
  refine wpAny_bind (wpAny_field he rfl (x := .ref it) rfl ?_)
  refine wpAny_bind (wpAny_nextOf_tuple_end hh hit hl hx fun h' x he' hx' => ?_)
  obtain ⟨o, ho, hc⟩ := hx'
  refine wpAny_bind (wpAny_isInstance (T := "StopIteration") (b := true) ⟨o, ho, hc⟩ isSubtype_stop ?_)
  exact wpAny_pure (hQ _ he')
end
end PySem
namespace L2
open PySem PySem.Spec PyProof.Rows
/-- the tuple at a, each item in a new pair -/
def IteT (K : PySem.W.Frag) (a : Addr) : It :=
  ⟨fun i H => ∃ (xs : List V) (x : V), SqT K H a xs ∧ xs[i]? = some x, fun i H v H' => ∃ T x, v = .ref T ∧ H T = none ∧ H' = upd H T (.tup [.int (i : Nat), x]) ∧ ∀ xs, SqT K H a xs → xs[i]? = some x, fun i H => ∃ xs : List V, SqT K H a xs ∧ xs.length ≤ i⟩
theorem turn_enumT {P : Program} {w : World} {K : PySem.W.Frag} {elts : List Expr} {kk : Nat} {tpos : Pos} (a e it : Addr) :
    Turn P w K (.Tuple elts kk tpos) (IteT K a) [e, it] e (fun i h => (∃ old, IsEnum h e it ((i : Nat) : Int) old) ∧ h.IsTupleIter it a i ∧ e ≠ it) where
  mem := by simp
  obj := fun i h st b hb => by
    obtain ⟨⟨old, he⟩, ⟨o, ho, hc, hd⟩, _⟩ := st
    have e' : b = e ∨ b = it := by simpa using hb
    rcases e' with z | z
    · rw [z]; exact ⟨_, he, fun v q => nomatch q⟩
    · rw [z]; exact ⟨o, ho, fun v q => by rw [hd] at q; cases q⟩
  keep := fun i h h' st k => let ⟨⟨old, he⟩, hi, hne⟩ := st; ⟨⟨old, k e (by simp) _ he⟩, hi.at fun o q => k it (by simp) o q, hne⟩
  item := by
    intro X hP hw hK hc i pins s σ H E I hf st hg
    subst hP hw hK
    obtain ⟨⟨old, he⟩, hit, hne⟩ := st
    obtain ⟨xs, x, hq, hx⟩ := hg
    obtain ⟨its, rv, p, hz⟩ := I.tuple hq
    obtain ⟨u, hu, ru⟩ := rv.get hx
    have hel : e < s.heap.objs.size := Heap.lt_size he
    have hil : it < s.heap.objs.size := by obtain ⟨_, q, _⟩ := hit; exact Heap.lt_size q
    obtain ⟨oa, ha, hca, na, hda⟩ := id p
    have hae : a ≠ e := fun z => by
      rw [z] at ha
      rw [he] at ha
      cases ha
      exact absurd (Value.type.inj hca) (by decide)
    have hai : a ≠ it := fun z => by
      obtain ⟨oi, hoi, hci, _⟩ := hit
      rw [z, hoi] at ha
      cases ha
      rw [hci] at hca
      exact absurd (Value.type.inj hca) (by decide)
    have hlt : i < its.toArray.size := by
      have := (List.getElem?_eq_some_iff.mp hu).1
      simpa using this
    refine wpAny_pyNext_enum_itemD (Draws.tuple (A := X.A.in1) (I.ok.hd hc) it a hai its.toArray) he ⟨hit, p⟩ hlt hne (by simp [hne, Ne.symm hae]) fun y h' tk hy ho hst hT hsz hk => ?_
    have ey : y = u := by
      have h2 : its.toArray[i]? = some y := hy
      have h3 : its[i]? = some y := by simpa using h2
      rw [hu] at h3
      exact (Option.some.inj h3).symm
    subst ey
    refine ⟨_, rfl, wpAny_letOwnedTupleGo_enum (s := { s with heap := h', toks := tk + 1 }) ho fun h'' he' sb => ?_⟩
    have hT2 : h''.get? s.heap.objs.size = some { cls := .type "tuple", data := .seq #[.int i tk, y] } := (sb.2 _ (Nat.ne_of_gt hel)).trans hT
    have new : ObjOk X.prog X.w (upd H s.heap.objs.size (.tup [.int (i : Nat), x])) h'' s.heap.objs.size (.tup [.int (i : Nat), x]) :=
      ⟨by show 2 ≤ sizeLine; decide, [.int i tk, y], .cons ⟨_, rfl⟩ (.cons ru .nil), ⟨_, hT2, rfl, _, rfl⟩⟩
    have I1 : Inv X pins σ (upd H s.heap.objs.size (.tup [.int (i : Nat), x])) { s with heap := h'', toks := tk + 1 } :=
      I.turnedNew (ch := [e, it]) (fun b ob hb q => (sb.2 b (fun z => hb (by simp [z]))).trans (hk b ob (fun z => hb (by simp [z])) (fun z => hb (by simp [z])) q)) hf (Nat.le_refl _) new
    refine ⟨.ref s.heap.objs.size, _, I1, rfl, ⟨_, x, rfl, I.hok.fresh (Nat.le_refl _), rfl, fun ys hy => by rw [I.tuple_inj hy hq]; exact hx⟩, ⟨⟨y, ?_⟩, hst.1.at fun o q => (sb.2 it (Ne.symm hne)).trans q, hne⟩, fun b hb => ?_⟩
    · have e1 : ((i + 1 : Nat) : Int) = (i : Int) + 1 := by omega
      rw [e1]; exact he'
    · have hb' : b < s.heap.objs.size := by
        have e' : b = e ∨ b = it := by simpa using hb
        rcases e' with z | z
        · rw [z]; exact hel
        · rw [z]; exact hil
      rw [upd_ne (Nat.ne_of_lt hb')]
      exact (hf b hb).1
  done := by
    intro X hP hw hK hc i pins s σ H E I hf st hg
    subst hP hw hK
    obtain ⟨⟨old, he⟩, hit, hne⟩ := st
    obtain ⟨xs, hq, hx⟩ := hg
    obtain ⟨its, rv, p, hz⟩ := I.tuple hq
    obtain ⟨f0, f1, f2, f3, f4, f5⟩ := hf it (by simp)
    have hl := rv.length
    exact wpAny_pyNext_enum_endT (I.ok.hd hc) he hit p (by simp; omega) fun h' eb => ⟨rfl, I.turned (t' := s.toks) (fun b o hb q => eb b o hb q) f0 f1 f3 f4 f5⟩
  self := fun A i s Q E st h => let ⟨⟨_, he⟩, _⟩ := st; wpAny_pyIter_enum he h
/-- enumerate(x), x a list or a tuple -/
def iEnumA (K : PySem.W.Frag) (ta : TA) : TI := fun σ H R => ta σ H fun vs H1 => ∃ a xs, vs = [.ref a] ∧ ((SqL K H1 a xs ∧ R (Ite K a) H1) ∨ (SqT K H1 a xs ∧ R (IteT K a) H1))
theorem pi_enumA {X : Cx} {e : Expr} {ta : TA} {p pos tpos : Pos} {elts : List Expr} {kk : Nat} (hg : Gl X "enumerate") (hm : X.mg "enumerate" = none) (ha : PA X [e] ta) (hs : starEach [e] X.env = [(false, eval e X.env)] := by rfl) :
    PI X (.Tuple elts kk tpos) (.Call (.Name "enumerate" p) [e] [] pos) (iEnumA X.K ta) := by
  refine ⟨fun pins s σ H R I h => ?_⟩
  refine Call_ (ld_blt I hg hm boot_enumerate (PyProof.Rows.callWith_type1 (thn (ha.run pos pins s σ H _ I h) fun us s1 ⟨vs, H1, I1, r1, q1⟩ => ?_) hs rfl))
  obtain ⟨a, xs, ex, hq⟩ := q1
  subst ex
  cases r1 with
  | cons r rr =>
    cases rr
    cases r
    have fp : ∀ b ∈ [s1.heap.objs.size + 1, s1.heap.objs.size], FpOk X pins H1 b := fun b hb => by
      have e' : b = s1.heap.objs.size + 1 ∨ b = s1.heap.objs.size := by simpa using hb
      have hle : s1.heap.objs.size ≤ b := by
        rcases e' with z | z
        · rw [z]; exact Nat.le_add_right _ _
        · rw [z]; exact Nat.le_refl _
      exact I1.fpOk hle (I1.hok.fresh hle)
    rcases hq with ⟨hq, q⟩ | ⟨hq, q⟩
    · obtain ⟨its, rv, p', hz⟩ := I1.list hq
      refine call_enumerate_list p'.isList fun h' he hit hsz hk => wpAny_pyIter_enum he ?_
      have I2 : Inv X pins σ H1 { s1 with heap := h' } := I1.kept (t' := s1.toks) hk
      exact ⟨s1.heap.objs.size + 1, [s1.heap.objs.size + 1, s1.heap.objs.size], _, _, H1, rfl, I2, turn_enum a (s1.heap.objs.size + 1) s1.heap.objs.size, ⟨⟨.none, he⟩, hit, Nat.succ_ne_self _⟩, fp, q⟩
    · obtain ⟨its, rv, p', hz⟩ := I1.tuple hq
      refine call_enumerate_tup p' fun h' he hit hsz hk => wpAny_pyIter_enum he ?_
      have I2 : Inv X pins σ H1 { s1 with heap := h' } := I1.kept (t' := s1.toks) hk
      exact ⟨s1.heap.objs.size + 1, [s1.heap.objs.size + 1, s1.heap.objs.size], _, _, H1, rfl, I2, turn_enumT a (s1.heap.objs.size + 1) s1.heap.objs.size, ⟨⟨.none, he⟩, hit, Nat.succ_ne_self _⟩, fp, q⟩
end L2
end

section
set_option Elab.async false
set_option linter.all false
set_option maxRecDepth 100000
set_option maxHeartbeats 4000000
/-! Y6: targets, walks, for, comprehensions. -/
namespace Y
open PySem PySem.Spec PyProof.Rows L2

/-! ### targets -/
/-- but for the slots ow all is as it was -/
def Keep (ow : List Nat) (σ σ' : L2.St) : Prop := σ'.length = σ.length ∧ ∀ j, j ∉ ow → σ'[j]? = σ[j]?
def tG (c : Ctx) (ow : List Nat) (t : D → List D → Option (List D)) : TG := fun v σ H Q => ∃ τ F S d A, SA c F H σ τ S ∧ Rel c F H d v A ∧ (A ++ S).Nodup ∧ ∃ τ', t d τ = some τ' ∧ ∀ σ' S', SA c F H σ' τ' S' → (∀ b ∈ S', b ∈ A ++ S) → Keep ow σ σ' → Q σ' H
def tGs (c : Ctx) (ow : List Nat) (t : List D → List D → Option (List D)) : TGs := fun vs σ H Q => ∃ τ F S ds A, SA c F H σ τ S ∧ Rels c F H ds vs A ∧ (A ++ S).Nodup ∧ ∃ τ', t ds τ = some τ' ∧ ∀ σ' S', SA c F H σ' τ' S' → (∀ b ∈ S', b ∈ A ++ S) → Keep ow σ σ' → Q σ' H
structure TrG (X : Cx) (c : Ctx) (e : Expr) (ow : List Nat) (t : D → List D → Option (List D)) : Prop where
  pg : PG X e (tG c ow t)
structure TrGs (X : Cx) (c : Ctx) (es : List Expr) (ow : List Nat) (t : List D → List D → Option (List D)) : Prop where
  pgs : PGs X es (tGs c ow t)
theorem pg_mono {X : Cx} {e : Expr} {t t' : TG} (h : PG X e t) (k : ∀ v σ H Q, t' v σ H Q → t v σ H Q) : PG X e t' := ⟨fun pins s σ H v u Q I r q => h.run pins s σ H v u Q I r (k v σ H Q q)⟩
theorem pgs_mono {X : Cx} {e : List Expr} {t t' : TGs} (h : PGs X e t) (k : ∀ v σ H Q, t' v σ H Q → t v σ H Q) : PGs X e t' := ⟨fun pins s σ H v u Q I r q => h.run pins s σ H v u Q I r (k v σ H Q q)⟩
def gN (i : Nat) : D → List D → Option (List D) := fun d τ => some (τ.set i d)
def gNo : List D → List D → Option (List D) := fun ds τ => match ds with
  | [] => some τ
  | _ :: _ => none
def gC (t : D → List D → Option (List D)) (u : List D → List D → Option (List D)) : List D → List D → Option (List D) := fun ds τ => match ds with
  | [] => none
  | d :: ds => match t d τ with
    | some τ1 => u ds τ1
    | none => none
def gT (n : Nat) (u : List D → List D → Option (List D)) : D → List D → Option (List D) := fun d τ => match d with
  | .tup ds => if ds.length = n then u ds τ else none
  | _ => none
section
variable {X : Cx} {c : Ctx} {a b e : Expr} {rest es : List Expr} {f f1 f2 f3 : Den Hdl} {g : Den (List Hdl)} {pos : Pos} {st : Stmt} {sts sts2 : List Stmt} {p q : SDen} {t : D → List D → Option (List D)} {u : List D → List D → Option (List D)}
theorem g_name {i : Nat} {x : Str} (hN : X.N.Nodup) (hi : X.N[i]? = some x) (hx : Loc X.env.scope x) (hf : c.fx i = false) (hfn : X.fn x = true ∨ X.env.scope.names.lookup x = some .local := by first | exact .inl rfl | exact .inr rfl | assumption) : TrG X c (.Name x pos) [i] (gN i) := by
  refine ⟨pg_mono (pg_name hN hi hx hfn) fun v σ H Q h => ?_⟩
  obtain ⟨τ, F, S, d, A, sa, r, nd, τ', e, k⟩ := h
  cases e
  obtain ⟨S', sa', hm⟩ := sa.put r nd hf
  exact k _ S' sa' hm ⟨List.length_set, fun j hj => List.getElem?_set_ne fun z => hj (by simp [z])⟩
theorem gs_nil : TrGs X c [] [] gNo := by
  refine ⟨pgs_mono pgs_nil fun v σ H Q h => ?_⟩
  obtain ⟨τ, F, S, ds, A, sa, r, nd, τ', e, k⟩ := h
  cases ds with
  | cons _ _ => cases e
  | nil =>
    cases e
    obtain ⟨rfl, rfl⟩ := r
    exact ⟨rfl, k σ S sa (fun b hb => hb) ⟨rfl, fun _ _ => rfl⟩⟩
theorem gs_cons {o1 o2 : List Nat} (h1 : TrG X c e o1 t) (h2 : TrGs X c es o2 u) (hs : (assignEach (e :: es) X.env).map (·.2) = assign e X.env :: (assignEach es X.env).map (·.2) := by rfl) : TrGs X c (e :: es) (o1 ++ o2) (gC t u) := by
  refine ⟨pgs_mono (pgs_cons h1.pg h2.pgs hs) fun v σ H Q h => ?_⟩
  obtain ⟨τ, F, S, ds, A, sa, r, nd, τ', e, k⟩ := h
  cases ds with
  | nil => cases e
  | cons d ds =>
    obtain ⟨w, ws, A1, A2, rfl, rfl, r1, r2⟩ := r
    have e : (match t d τ with
      | some τ1 => u ds τ1
      | none => none) = some τ' := e
    cases e1 : t d τ with
    | none => rw [e1] at e; cases e
    | some τ1 =>
      rw [e1] at e
      have n1 := List.nodup_append.mp nd
      have n2 := List.nodup_append.mp n1.1
      refine ⟨w, ws, rfl, τ, F, S, d, A1, sa, r1, List.nodup_append.mpr ⟨n2.1, n1.2.1, fun x hx y hy => n1.2.2 x (List.mem_append_left _ hx) y hy⟩, τ1, e1, fun σ1 S1 sa1 hm1 kp1 => ?_⟩
      have nd2 : (A2 ++ S1).Nodup := List.nodup_append.mpr ⟨n2.2.1, sa1.nd, fun x hx y hy z => by
        subst z
        rcases List.mem_append.mp (hm1 x hy) with z | z
        · exact n2.2.2 x z x hx rfl
        · exact n1.2.2 x (List.mem_append_right _ hx) x z rfl⟩
      refine ⟨τ1, F, S1, ds, A2, sa1, r2, nd2, τ', e, fun σ2 S2 sa2 hm2 kp2 => k σ2 S2 sa2 (fun b hb => ?_) ⟨kp2.1.trans kp1.1, fun j hj => (kp2.2 j fun z => hj (List.mem_append_right _ z)).trans (kp1.2 j fun z => hj (List.mem_append_left _ z))⟩⟩
      rcases List.mem_append.mp (hm2 b hb) with z | z
      · exact List.mem_append_left _ (List.mem_append_right _ z)
      · rcases List.mem_append.mp (hm1 b z) with z | z
        · exact List.mem_append_left _ (List.mem_append_left _ z)
        · exact List.mem_append_right _ z
theorem g_tup {k n : Nat} {ow : List Nat} (hK : c.K = X.K) (hc : X.calm = true) (h : TrGs X c es ow u) (hn : (assignEach es X.env).length = n := by rfl) (hst : (assignEach es X.env).findIdx? (·.1) = none := by rfl) : TrG X c (.Tuple es k pos) ow (gT n u) := by
  refine ⟨pg_mono (pg_tup hc h.pgs hn hst) fun v σ H Q h => ?_⟩
  obtain ⟨τ, F, S, d, A, sa, r, nd, τ', e, k⟩ := h
  cases d <;> first | (cases e; done) | skip
  rename_i ds
  have e : (if ds.length = n then u ds τ else none) = some τ' := e
  split at e <;> first | (cases e; done) | skip
  rename_i hl
  obtain ⟨p, vs, rfl, h1, r⟩ := r
  exact ⟨p, vs, rfl, by rw [← hK]; exact sqT_sub sa.ex h1, by rw [r.length]; exact hl, τ, F, S, ds, A, sa, r, nd, τ', e, k⟩
/-- target = e -/
def sAsg (f : Den Hdl) (t : D → List D → Option (List D)) : SDen := fun τ => onE (f τ) fun h τ1 => match h with
  | .val d => match t d τ1 with
    | some τ2 => .nx τ2
    | none => .bad
  | .slot _ => .bad
theorem s_asg {tg : Expr} {ow : List Nat} (he : Tr X c e f) (hg : TrG X c tg ow t) (hs : swapsWithSole [tg] e pos.line X.env = pure false := by rfl) (hw : swappedStores [tg] e X.env = pure none := by rfl) (h1 : (assignEach [tg] X.env).map (·.2) = [assign tg X.env] := by rfl) : Ts X c (.Assign [tg] e pos) (sAsg f t) := by
  refine ⟨fun W tk => ps_mono (ps_asg (he.pe W tk) hg.pg hs hw h1) fun E σ H h => ?_⟩
  refine onE_sound h fun {h τ1 v F1 H1 A S1} sa r nd q => ?_
  cases h with
  | slot j => exact q.elim
  | val d =>
    have q : PostS c W E F1 H1 (A ++ S1) (match t d τ1 with
      | some τ2 => .nx τ2
      | none => .bad) := q
    cases e1 : t d τ1 with
    | none => rw [e1] at q; exact q.elim
    | some τ2 =>
      rw [e1] at q
      exact ⟨τ1, F1, S1, d, A, sa, r, nd, τ2, e1, fun σ' S' sa' hm _ => q σ' F1 H1 S' (Go.less Go.refl hm) sa'⟩
/-- a, b = e1, e2, plain local names -/
def sPar (i j : Nat) (g : Den (List Hdl)) : SDen := fun τ => match g τ with
  | .ok [.val d, .val d2] τ1 => .nx ((τ1.set i d).set j d2)
  | .ok _ _ => .bad
  | .ex n d τ1 => .ex n d τ1
  | .bad => .bad
theorem s_par {i j : Nat} {x y : Str} {px py pt : Pos} {kt k2 pt2} (hc : X.calm = true) (hN : X.N.Nodup) (hi : X.N[i]? = some x) (hj : X.N[j]? = some y) (hij : i ≠ j) (hfi : c.fx i = false) (hfj : c.fx j = false)
    (hx : X.env.scope.names.lookup x = some .local) (hy : X.env.scope.names.lookup y = some .local) (ha : TrA X c [a, b] g)
    (hw : swappedStores [.Tuple [.Name x px, .Name y py] kt pt] (.Tuple [a, b] k2 pt2) X.env = pure (some [x, y]) := by rfl)
    (hs : swapsWithSole [.Tuple [.Name x px, .Name y py] kt pt] (.Tuple [a, b] k2 pt2) pos.line X.env = pure false := by rfl) :
    Ts X c (.Assign [.Tuple [.Name x px, .Name y py] kt pt] (.Tuple [a, b] k2 pt2) pos) (sPar i j g) := by
  refine ⟨fun W tk => ps_mono (ps_par hc hN hi hj hij hx hy (ha.pa W tk) hw hs) fun E σ H h => ?_⟩
  obtain ⟨τ, F, S, sa, h⟩ := h
  refine ⟨τ, F, S, sa, ?_⟩
  unfold sPar at h
  cases e1 : g τ with
  | bad => rw [e1] at h; exact h
  | ex n d τ' =>
    rw [e1] at h
    intro cv dx F' H' S' go sa' x
    exact (show PostS c W E F H S (.ex n d τ') from h) cv dx σ F' H' S' go sa' x
  | ok hs τ1 =>
    rw [e1] at h
    intro vs F1 H1 A1 S1 g1 sa1 r1 nd1
    match hs, h, r1 with
    | [], h, _ => exact h.elim
    | [.val _], h, _ => exact h.elim
    | .slot _ :: _, h, _ => exact h.elim
    | .val _ :: .slot _ :: _, h, _ => exact h.elim
    | .val _ :: .val _ :: _ :: _, h, _ => exact h.elim
    | [.val d, .val d2], h, r1 =>
      obtain ⟨v, ws, B1, C1, rfl, rfl, q1, r2⟩ := r1
      obtain ⟨v2, ws2, B2, C2, rfl, rfl, q2, r3⟩ := r2
      obtain ⟨rfl, rfl⟩ := r3
      rw [List.append_nil] at nd1 g1
      have n1 := List.nodup_append.mp nd1
      have n2 := List.nodup_append.mp n1.1
      obtain ⟨S2, sa2, hm2⟩ := sa1.put (i := i) (d := d) (v := v) (A := B1) q1 (List.nodup_append.mpr ⟨n2.1, n1.2.1, fun x hx y hy => n1.2.2 x (List.mem_append_left _ hx) y hy⟩) hfi
      obtain ⟨S3, sa3, hm3⟩ := sa2.put (i := j) (d := d2) (v := v2) (A := B2) q2 (List.nodup_append.mpr ⟨n2.2.1, sa2.nd, fun x hx y hy z => by
        subst z
        rcases List.mem_append.mp (hm2 x hy) with z | z
        · exact n2.2.2 x z x hx rfl
        · exact n1.2.2 x (List.mem_append_right _ hx) x z rfl⟩) hfj
      refine ⟨v, v2, rfl, (show PostS c W E F H S (.nx ((τ1.set i d).set j d2)) from h) _ F1 H1 S3 (Go.less g1 fun b hb => ?_) sa3⟩
      rcases List.mem_append.mp (hm3 b hb) with z | z
      · exact List.mem_append_left _ (List.mem_append_right _ z)
      · rcases List.mem_append.mp (hm2 b z) with z | z
        · exact List.mem_append_left _ (List.mem_append_left _ z)
        · exact List.mem_append_right _ z

/-! ### walks -/
structure Yld (c : Ctx) (J : It) (F0 : Hp) (ds : List D) : Prop where
  go : ∀ i H, (∀ b o, F0 b = some o → H b = some o) → i < ds.length → J.go i H
  stop : ∀ i H, (∀ b o, F0 b = some o → H b = some o) → ds.length ≤ i → J.stop i H
  yld : ∀ i F H x H', (∀ b o, F0 b = some o → F b = some o) → (∀ b o, F b = some o → H b = some o) → i < ds.length → J.yld i H x H' → ∃ d F', ds[i]? = some d ∧ Grow F H F' H' [] ∧ Rel c F' H' d x []
def tI (c : Ctx) (f : Den (List D)) (W : WX) : TI := fun σ H R => ∃ τ F S, SA c F H σ τ S ∧ match f τ with
  | .ok ds τ' => ∀ J F' H' S', Go F H S F' H' S' → SA c F' H' σ τ' S' → Yld c J F' ds → R J H'
  | .ex n d τ' => ∀ cv dx F' H' S', Go F H S F' H' S' → SA c F' H' σ τ' S' → ExP c F' H' n d cv dx → W cv dx σ H'
  | .bad => False
structure TrI (X : Cx) (c : Ctx) (tg e : Expr) (f : Den (List D)) : Prop where
  pi : ∀ W, Takes X W → PI X tg e (tI c f W)
theorem pi_mono {tg : Expr} {t t' : TI} (h : PI X tg e t) (k : ∀ σ H Q, t' σ H Q → t σ H Q) : PI X tg e t' := ⟨fun pins s σ H Q I q => h.run pins s σ H Q I (k σ H Q q)⟩
/-- for target in source -/
def forL (t : D → List D → Option (List D)) (p : SDen) : List D → SDen
  | [] => .nx
  | d :: ds => fun τ => match t d τ with
    | some τ1 => (match p τ1 with
      | .nx τ2 => forL t p ds τ2
      | .ct τ2 => forL t p ds τ2
      | .bk τ2 => .nx τ2
      | r => r)
    | none => .bad
def sFor (f : Den (List D)) (t : D → List D → Option (List D)) (p : SDen) : SDen := fun τ => match f τ with
  | .ok ds τ1 => forL t p ds τ1
  | .ex n d τ1 => .ex n d τ1
  | .bad => .bad
theorem drop_at {α : Type} {l : List α} {i : Nat} {x : α} (h : l[i]? = some x) : l.drop i = x :: l.drop (i + 1) := by
  obtain ⟨h1, h2⟩ := List.getElem?_eq_some_iff.mp h
  rw [List.drop_eq_getElem_cons h1, h2]
theorem s_for {tg iter : Expr} {ow : List Nat} {fi : Den (List D)} (hp : PassesOwn (model X.prog X.w) X.A X.env X.xe) (hc : X.calm = true) (hi : TrI X c tg iter fi) (hg : TrG X c tg ow t) (hb : Tss X c sts p)
    (hs : ∀ x, foldedSetIterable iter X.env x = pure x := by intro _; rfl) : Ts X c (.For tg iter sts [] pos) (sFor fi t p) := by
  refine ⟨fun W tk => ps_mono (ps_for hp hc (hi.pi W tk) hg.pg (hb.pss W tk) hs) fun E σ H h => ?_⟩
  obtain ⟨τ, F, S, sa, h⟩ := h
  refine ⟨τ, F, S, sa, ?_⟩
  unfold sFor at h
  cases e1 : fi τ with
  | bad => rw [e1] at h; exact h
  | ex n d τ' =>
    rw [e1] at h
    intro cv dx F' H' S' go sa' x
    exact (show PostS c W E F H S (.ex n d τ') from h) cv dx σ F' H' S' go sa' x
  | ok ds τ1 =>
    rw [e1] at h
    intro J F1 H1 S1 g1 sa1 y
    have h1 := PostS.step (A := []) g1 (show PostS c W E F H S (forL t p ds τ1) from h)
    refine ⟨fun i m σ' H' => m = ds.length - i ∧ ∃ τ' F' S', (∀ b o, F1 b = some o → F' b = some o) ∧ SA c F' H' σ' τ' S' ∧ PostS c W E F' H' S' (forL t p (ds.drop i) τ'), ⟨ds.length, rfl, τ1, F1, S1, fun _ _ h => h, sa1, h1⟩, ?_⟩
    rintro i m σ2 H2 ⟨rfl, τ2, F2, S2, ff, sa2, h2⟩
    have fh : ∀ b o, F1 b = some o → H2 b = some o := fun b o z => sa2.ex b o (ff b o z)
    by_cases hlt : i < ds.length
    · refine .inr ⟨y.go i H2 fh hlt, fun σ' H' => ∃ τ' F' S', (∀ b o, F1 b = some o → F' b = some o) ∧ SA c F' H' σ' τ' S' ∧ PostS c W E F' H' S' (forL t p (ds.drop (i + 1)) τ'), fun σ' H' q => ⟨ds.length - (i + 1), by omega, rfl, q⟩, fun x H3 hy => ?_⟩
      obtain ⟨d, F3, hd, gr, rr⟩ := y.yld i F2 H2 x H3 ff sa2.ex hlt hy
      obtain ⟨sa3, _⟩ := gr.sa sa2
      rw [drop_at hd] at h2
      have h3 := PostS.step (A := []) (gr.go S2) h2
      have h3 : PostS c W E F3 H3 S2 (match t d τ2 with
        | some τ1 => (match p τ1 with
          | .nx τ2 => forL t p (ds.drop (i + 1)) τ2
          | .ct τ2 => forL t p (ds.drop (i + 1)) τ2
          | .bk τ2 => .nx τ2
          | r => r)
        | none => .bad) := h3
      cases e2 : t d τ2 with
      | none => rw [e2] at h3; exact h3.elim
      | some τ3 =>
        rw [e2] at h3
        have h3 : PostS c W E F3 H3 S2 (match p τ3 with
          | .nx τ2 => forL t p (ds.drop (i + 1)) τ2
          | .ct τ2 => forL t p (ds.drop (i + 1)) τ2
          | .bk τ2 => .nx τ2
          | r => r) := h3
        refine ⟨τ2, F3, S2, d, [], sa3, rr, sa3.nd, τ3, e2, fun σ4 S4 sa4 hm4 _ => ⟨τ3, F3, S4, sa4, ?_⟩⟩
        have h4 := PostS.step (A := []) (Go.less (Go.refl (F := F3) (H := H3) (S := S2)) hm4) h3
        have f3 : ∀ b o, F1 b = some o → F3 b = some o := fun b o z => gr.f b o (ff b o z)
        cases e3 : p τ3 with
        | nx τ5 =>
          rw [e3] at h4
          exact fun σ' F' H' S' go sa' => ⟨τ5, F', S', fun b o z => go.f b o (f3 b o z), sa', PostS.step (A := []) go h4⟩
        | ct τ5 =>
          rw [e3] at h4
          exact fun σ' F' H' S' go sa' => ⟨τ5, F', S', fun b o z => go.f b o (f3 b o z), sa', PostS.step (A := []) go h4⟩
        | bk τ5 => rw [e3] at h4; exact h4
        | rt d τ5 => rw [e3] at h4; exact h4
        | ex n d τ5 => rw [e3] at h4; exact h4
        | bad => rw [e3] at h4; exact h4
    · refine .inl ⟨y.stop i H2 fh (by omega), ?_⟩
      rw [List.drop_eq_nil_of_le (by omega)] at h2
      exact (show PostS c W E F2 H2 S2 (.nx τ2) from h2) σ2 F2 H2 S2 Go.refl sa2
end
end Y
end

section
set_option Elab.async false
set_option linter.all false
set_option maxRecDepth 100000
set_option maxHeartbeats 4000000
/-! Y7: what is walked; comprehensions. -/
namespace Y
open PySem PySem.Spec PyProof.Rows L2

section
variable {c : Ctx} {F H F1 H1 : Hp} {σ : L2.St} {τ : List D} {S A : List Addr}
/-- the items of a list or a tuple that is walked -/
def seqOf (h : Hdl) (τ : List D) : Option (List D) := match h, h.get τ with
  | _, .tup xs => if D.pls xs then some xs else none
  | _, .lst false xs => if D.pls xs then some xs else none
  | .val _, .lst true xs => some (D.frzs xs)
  | _, _ => none
structure SeqAt' (c : Ctx) (F H F' : Hp) (a : Addr) (vs : List V) (xs : List D) (σ : L2.St) (τ : List D) (S A : List Addr) : Prop where
  go : Go F H (A ++ S) F' H S
  sa : SA c F' H σ τ S
  rel : Rels c F' H xs vs []
  at_ : F' a = some (.lst vs) ∨ SqT c.K F' a vs
/-- a frozen object more, one that was in hand -/
theorem SA.frz1 (sa : SA c F H σ τ S) {p : Addr} {o : HO} (hp : H p = some o) (hf : F p = none) (hs : p ∉ S) (ht : ∀ ps, o ≠ .tbl ps) : SA c (upd F p o) H σ τ S ∧ (∀ b u, F b = some u → upd F p o b = some u) := by
  have hF : ∀ b u, F b = some u → upd F p o b = some u := fun b u h => by
    rw [upd_ne (ne_of_none h hf)]
    exact h
  refine ⟨⟨fun b u h => ?_, fun b ps h => ?_, fun b u h => hF b u (sa.fb b u h), sa.tb, Slots.mono hF sa.sl fun b hb => ⟨rfl, ?_⟩, sa.nd, sa.fx⟩, hF⟩
  · by_cases hb : b = p
    · subst hb
      rw [upd_same] at h
      cases h
      exact hp
    · rw [upd_ne hb] at h
      exact sa.ex b u h
  · by_cases hb : b = p
    · subst hb
      rw [upd_same] at h
      exact ht ps (Option.some.inj h)
    · rw [upd_ne hb] at h
      exact sa.nt b ps h
  · rw [upd_ne (fun z => hs (by rw [← z]; exact hb))]
    exact (sa.owned b hb).1
/-- what is in hand is given up -/
theorem SA.frzA (sa : SA c F H σ τ S) {d : D} {v : V} (r : Rel c F H d v A) (nd : (A ++ S).Nodup) : ∃ F', (∀ b o, F b = some o → F' b = some o) ∧ Go F H (A ++ S) F' H S ∧ SA c F' H σ τ S ∧ Rel c F' H d.frz v [] := by
  have own := r.owned
  have hF : ∀ b o, F b = some o → (fun b => if b ∈ A then H b else F b) b = some o := fun b o h => by
    show (if b ∈ A then H b else F b) = some o
    by_cases hb : b ∈ A
    · rw [(own b hb).1] at h
      cases h
    · rw [if_neg hb]
      exact h
  refine ⟨fun b => if b ∈ A then H b else F b, hF, ⟨hF, fun b o h _ _ => h, fun b hb => .inl (List.mem_append_right _ hb), fun b o h => ?_⟩, ⟨fun b o h => ?_, fun b ps h => ?_, fun b o h => hF b o (sa.fb b o h), sa.tb, Slots.mono hF sa.sl fun b hb => ⟨rfl, ?_⟩, sa.nd, sa.fx⟩, Rel.froze hF r fun b hb => if_pos hb⟩
  · have h : (if b ∈ A then H b else F b) = some o := h
    by_cases hb : b ∈ A
    · exact .inr (.inl (List.mem_append_left _ hb))
    · rw [if_neg hb] at h
      exact .inl h
  · have h : (if b ∈ A then H b else F b) = some o := h
    by_cases hb : b ∈ A
    · rw [if_pos hb] at h
      exact h
    · rw [if_neg hb] at h
      exact sa.ex b o h
  · have h : (if b ∈ A then H b else F b) = some (.tbl ps) := h
    by_cases hb : b ∈ A
    · rw [if_pos hb] at h
      obtain ⟨_, o, h2, h3⟩ := own b hb
      rw [h2] at h
      exact h3 ps (Option.some.inj h)
    · rw [if_neg hb] at h
      exact sa.nt b ps h
  · have nb : b ∉ A := fun z => (List.nodup_append.mp nd).2.2 b z b hb rfl
    show (if b ∈ A then H b else F b) = none
    rw [if_neg nb]
    exact (sa.owned b hb).1
theorem seqOf_at {h : Hdl} {v : V} {xs : List D} (sa : SA c F H σ τ S) (r : RelH c F H σ h v A) (nd : (A ++ S).Nodup) (e : seqOf h τ = some xs) : ∃ F' a vs, v = .ref a ∧ SeqAt' c F H F' a vs xs σ τ S A := by
  have gl : Go F H (A ++ S) F H S := Go.less Go.refl fun b hb => List.mem_append_right _ hb
  rcases r.get sa with z | ⟨B, q⟩
  · unfold seqOf at e
    rw [z] at e
    cases h <;> cases e
  unfold seqOf at e
  cases hd : h.get τ with
  | tup ds =>
    rw [hd] at e q
    have e : (if D.pls ds then some ds else none) = some xs := by cases h <;> exact e
    split at e <;> cases e
    rename_i hp
    obtain ⟨p, vs, rfl, h1, r1⟩ := q
    have z := r1.pl_nil hp
    subst z
    exact ⟨F, p, vs, rfl, gl, sa, r1, .inr h1⟩
  | lst o ds =>
    rw [hd] at e q
    cases o with
    | false =>
      have e : (if D.pls ds then some ds else none) = some xs := by cases h <;> exact e
      split at e <;> cases e
      rename_i hp
      obtain ⟨p, vs, rfl, h1, _, r1⟩ := q
      exact ⟨F, p, vs, rfl, gl, sa, r1, .inl h1⟩
    | true =>
      cases h with
      | slot i => cases e
      | val d =>
        have e : some (D.frzs ds) = some xs := e
        cases e
        have hd : d = .lst true ds := hd
        subst hd
        obtain ⟨F', hF, g, sa', r'⟩ := sa.frzA r nd
        obtain ⟨p, vs, rfl, h1, _, r1⟩ := (show Rel c F' H (.lst false (D.frzs ds)) v [] from r')
        exact ⟨F', p, vs, rfl, g, sa', r1, .inl h1⟩
  | _ => rw [hd] at e; cases h <;> cases e
theorem yld_list {a : Addr} {vs : List V} {xs : List D} {K : PySem.W.Frag} (hK : c.K = K) (r : Rels c F H xs vs []) (h : F a = some (.lst vs)) : Yld c (Itl K a) F xs := by
  have sq : ∀ {H : Hp}, (∀ b o, F b = some o → H b = some o) → SqL K H a vs := fun e => .inl (.inl (e _ _ h))
  refine ⟨fun i H e hi => ?_, fun i H e hi => ⟨vs, sq e, by rw [r.length]; exact hi⟩, fun i F' H' x H2 e1 e2 hi hy => ?_⟩
  · obtain ⟨v, B, h1, _⟩ := r.at (j := i) (d := xs[i]) (List.getElem?_eq_getElem hi)
    exact ⟨vs, v, sq e, h1⟩
  · obtain ⟨rfl, hy⟩ := hy
    obtain ⟨v, B, h1, h2, hB⟩ := r.at (j := i) (d := xs[i]) (List.getElem?_eq_getElem hi)
    have z : B = [] := List.eq_nil_iff_forall_not_mem.mpr fun b hb => by cases hB b hb
    subst z
    have h3 := hy vs (sq fun b o h => e2 _ _ (e1 _ _ h))
    rw [h1] at h3
    cases h3
    exact ⟨xs[i], F', List.getElem?_eq_getElem hi, Grow.refl e2, Rel.mono e1 h2 fun b hb => by cases hb⟩
theorem yld_tup {a : Addr} {vs : List V} {xs : List D} {K : PySem.W.Frag} (hK : c.K = K) (r : Rels c F H xs vs []) (h : SqT c.K F a vs) : Yld c (Itt K a) F xs := by
  subst hK
  refine ⟨fun i H e hi => ?_, fun i H e hi => ⟨vs, sqT_mono e h, by rw [r.length]; exact hi⟩, fun i F' H' x H2 e1 e2 hi hy => ?_⟩
  · obtain ⟨v, B, h1, _⟩ := r.at (j := i) (d := xs[i]) (List.getElem?_eq_getElem hi)
    exact ⟨vs, v, sqT_mono e h, h1⟩
  · obtain ⟨rfl, hy⟩ := hy
    obtain ⟨v, B, h1, h2, hB⟩ := r.at (j := i) (d := xs[i]) (List.getElem?_eq_getElem hi)
    have z : B = [] := List.eq_nil_iff_forall_not_mem.mpr fun b hb => by cases hB b hb
    subst z
    have h3 := hy vs (sqT_mono (fun b o h => e2 _ _ (e1 _ _ h)) h)
    rw [h1] at h3
    cases h3
    exact ⟨xs[i], F', List.getElem?_eq_getElem hi, Grow.refl e2, Rel.mono e1 h2 fun b hb => by cases hb⟩
/-- lo, lo + k, .. -/
def rgD (lo k : Int) (n : Nat) : List D := (List.range n).map fun i => .int (lo + (i : Nat) * k)
theorem rgD_at {lo k : Int} {n i : Nat} (h : i < n) : (rgD lo k n)[i]? = some (.int (lo + (i : Nat) * k)) := by
  unfold rgD
  rw [List.getElem?_map, List.getElem?_range h]
  rfl
theorem yld_range {lo : Int} {n : Nat} : Yld c (Itr lo n) F (rgD lo 1 n) := by
  have hl : (rgD lo 1 n).length = n := by unfold rgD; simp
  refine ⟨fun i H e hi => ?_, fun i H e hi => ?_, fun i F' H' x H2 e1 e2 hi hy => ?_⟩
  · rw [hl] at hi; exact hi
  · rw [hl] at hi; exact hi
  · obtain ⟨rfl, rfl⟩ := hy
    rw [hl] at hi
    refine ⟨_, F', rgD_at hi, Grow.refl e2, ?_⟩
    rw [Int.mul_one]
    exact rel_int
theorem yld_rangeC {lo k : Int} {n : Nat} : Yld c (Itc lo k n) F (rgD lo k n) := by
  have hl : (rgD lo k n).length = n := by unfold rgD; simp
  refine ⟨fun i H e hi => ?_, fun i H e hi => ?_, fun i F' H' x H2 e1 e2 hi hy => ?_⟩
  · rw [hl] at hi; exact hi
  · rw [hl] at hi; exact hi
  · obtain ⟨rfl, rfl⟩ := hy
    rw [hl] at hi
    exact ⟨_, F', rgD_at hi, Grow.refl e2, rel_int⟩
def enumFrom' : Nat → List D → List D
  | _, [] => []
  | i, d :: ds => .tup [.int i, d] :: enumFrom' (i + 1) ds
theorem enum_length : ∀ (i : Nat) (ds : List D), (enumFrom' i ds).length = ds.length
  | _, [] => rfl
  | i, d :: ds => by rw [enumFrom', List.length_cons, enum_length, List.length_cons]
theorem enum_at : ∀ {ds : List D} {k i : Nat} {d : D}, ds[i]? = some d → (enumFrom' k ds)[i]? = some (.tup [.int ((k + i : Nat) : Int), d])
  | [], k, i, d, h => by simp at h
  | x :: ds, k, 0, d, h => by
    have e : x = d := by simpa using h
    subst e
    rfl
  | x :: ds, k, i + 1, d, h => by
    have q := enum_at (ds := ds) (k := k + 1) (i := i) (d := d) (by simpa using h)
    rw [enumFrom', List.getElem?_cons_succ, q]
    have : k + 1 + i = k + (i + 1) := by omega
    rw [this]
theorem pair_new {F H : Hp} {T : Addr} {x y : V} {d e : D} (ex : ∀ b o, F b = some o → H b = some o) (hT : H T = none) (r1 : Rel c F H d x []) (r2 : Rel c F H e y []) :
    Grow F H (upd F T (.tup [x, y])) (upd H T (.tup [x, y])) [] ∧ Rel c (upd F T (.tup [x, y])) (upd H T (.tup [x, y])) (.tup [d, e]) (.ref T) [] :=
  rel_newT ex (show Rels c F H [d, e] [x, y] [] from ⟨x, [y], [], [], rfl, rfl, r1, y, [], [], [], rfl, rfl, r2, rfl, rfl⟩) hT
theorem yld_enumL {a : Addr} {vs : List V} {xs : List D} {K : PySem.W.Frag} (r : Rels c F H xs vs []) (h : F a = some (.lst vs)) : Yld c (Ite K a) F (enumFrom' 0 xs) := by
  have sq : ∀ {H : Hp}, (∀ b o, F b = some o → H b = some o) → SqL K H a vs := fun e => .inl (.inl (e _ _ h))
  refine ⟨fun i H e hi => ?_, fun i H e hi => ⟨vs, sq e, by rw [r.length, ← enum_length 0]; exact hi⟩, fun i F' H' x H2 e1 e2 hi hy => ?_⟩
  · rw [enum_length] at hi
    obtain ⟨v, B, h1, _⟩ := r.at (j := i) (d := xs[i]) (List.getElem?_eq_getElem hi)
    exact ⟨vs, v, sq e, h1⟩
  · rw [enum_length] at hi
    obtain ⟨T, y, rfl, hT, rfl, hy⟩ := hy
    obtain ⟨v, B, h1, h2, hB⟩ := r.at (j := i) (d := xs[i]) (List.getElem?_eq_getElem hi)
    have z : B = [] := List.eq_nil_iff_forall_not_mem.mpr fun b hb => by cases hB b hb
    subst z
    have h3 := hy vs (sq fun b o h => e2 _ _ (e1 _ _ h))
    rw [h1] at h3
    cases h3
    obtain ⟨g, rr⟩ := pair_new (d := .int ((0 + i : Nat) : Int)) e2 hT (show Rel c F' H' (.int ((0 + i : Nat) : Int)) (.int (i : Nat)) [] by rw [Nat.zero_add]; exact rel_int) (Rel.mono (H' := H') e1 h2 fun b hb => by cases hb)
    exact ⟨_, _, enum_at (List.getElem?_eq_getElem hi), g, rr⟩
theorem yld_enumT {a : Addr} {vs : List V} {xs : List D} (r : Rels c F H xs vs []) (h : SqT c.K F a vs) : Yld c (IteT c.K a) F (enumFrom' 0 xs) := by
  refine ⟨fun i H e hi => ?_, fun i H e hi => ⟨vs, sqT_mono e h, by rw [r.length, ← enum_length 0]; exact hi⟩, fun i F' H' x H2 e1 e2 hi hy => ?_⟩
  · rw [enum_length] at hi
    obtain ⟨v, B, h1, _⟩ := r.at (j := i) (d := xs[i]) (List.getElem?_eq_getElem hi)
    exact ⟨vs, v, sqT_mono e h, h1⟩
  · rw [enum_length] at hi
    obtain ⟨T, y, rfl, hT, rfl, hy⟩ := hy
    obtain ⟨v, B, h1, h2, hB⟩ := r.at (j := i) (d := xs[i]) (List.getElem?_eq_getElem hi)
    have z : B = [] := List.eq_nil_iff_forall_not_mem.mpr fun b hb => by cases hB b hb
    subst z
    have h3 := hy vs (sqT_mono (fun b o h => e2 _ _ (e1 _ _ h)) h)
    rw [h1] at h3
    cases h3
    obtain ⟨g, rr⟩ := pair_new (d := .int ((0 + i : Nat) : Int)) e2 hT (show Rel c F' H' (.int ((0 + i : Nat) : Int)) (.int (i : Nat)) [] by rw [Nat.zero_add]; exact rel_int) (Rel.mono (H' := H') e1 h2 fun b hb => by cases hb)
    exact ⟨_, _, enum_at (List.getElem?_eq_getElem hi), g, rr⟩
end

section
variable {X : Cx} {c : Ctx} {a b e tg : Expr} {rest es : List Expr} {f f1 f2 f3 : Den Hdl} {g : Den (List Hdl)} {pos : Pos}
theorem pi_seq {l : Expr} {tl : TE} (hl : PE X l tl) : PI X tg l (fun σ H R => tl σ H fun x H1 => ∃ a, x = .ref a ∧ (((∃ xs, SqL X.K H1 a xs) ∧ R (Itl X.K a) H1) ∨ ((∃ xs, SqT X.K H1 a xs) ∧ R (Itt X.K a) H1))) := by
  refine ⟨fun pins s σ H R I h => ?_⟩
  refine thn (hl.run pins s σ H _ I h) fun v s1 ⟨x, H1, I1, r1, q1⟩ => ?_
  obtain ⟨a, e, q⟩ := q1
  subst e
  cases r1
  have fp : ∀ b ∈ [s1.heap.objs.size], FpOk X pins H1 b := fun b hb => by
    have e : b = s1.heap.objs.size := by simpa using hb
    rw [e]
    exact I1.fpOk (Nat.le_refl _) (I1.hok.fresh (Nat.le_refl _))
  rcases q with ⟨⟨xs, hq⟩, q⟩ | ⟨⟨xs, hq⟩, q⟩
  · obtain ⟨its, rv, p, hz⟩ := I1.list hq
    refine wpAny_pyIter_list p.isList ?_
    exact ⟨s1.heap.objs.size, [s1.heap.objs.size], _, _, H1, rfl, I1.kept (t' := s1.toks) fun b o e => Heap.get?_push_of_some _ e, turn_list a _, ⟨_, Heap.get?_push_size _ rfl, rfl, rfl⟩, fp, q⟩
  · obtain ⟨its, rv, p, hz⟩ := I1.tuple hq
    refine wpAny_pyIter_tuple p ?_
    exact ⟨s1.heap.objs.size, [s1.heap.objs.size], _, _, H1, rfl, I1.kept (t' := s1.toks) fun b o e => Heap.get?_push_of_some _ e, turn_tuple a _, ⟨_, Heap.get?_push_size _ rfl, rfl, rfl⟩, fp, q⟩
def seqS (f : Den Hdl) : Den (List D) := fun τ => (f τ).bind fun h τ1 => match seqOf h τ1 with
  | some xs => .ok xs τ1
  | none => .bad
theorem src_sound {k : List D → List D} {W : WX} {σ : L2.St} {H : Hp} {R : It → Hp → Prop} (h : tI c (fun τ => (f τ).bind fun h τ1 => match seqOf h τ1 with
      | some xs => .ok (k xs) τ1
      | none => .bad) W σ H R) {R' : VK}
    (hk : ∀ {F' H' : Hp} {a : Addr} {vs : List V} {xs : List D}, (∀ b o, F' b = some o → H' b = some o) → Rels c F' H' xs vs [] → (F' a = some (.lst vs) ∨ SqT c.K F' a vs) → (∀ J, Yld c J F' (k xs) → R J H') → R' (.ref a) H') : tE c f W σ H R' := by
  obtain ⟨τ, F, S, sa, h⟩ := h
  refine ⟨τ, F, S, sa, ?_⟩
  dsimp only at h
  cases e1 : f τ with
  | bad => rw [e1] at h; exact h
  | ex n d τ' => rw [e1] at h; exact h
  | ok h1 τ1 =>
    rw [e1] at h
    intro v1 F1 H1 A1 S1 g1 sa1 r1 nd1
    dsimp only [Rz.bind] at h
    cases e2 : seqOf h1 τ1 with
    | none => rw [e2] at h; exact h.elim
    | some xs =>
      rw [e2] at h
      obtain ⟨F2, a, vs, rfl, q⟩ := seqOf_at sa1 r1 nd1 e2
      exact hk q.sa.ex q.rel q.at_ fun J y => h J F2 H1 S1 (Go.trans0 g1 q.go) q.sa y
theorem i_seq (hK : c.K = X.K) (ha : Tr X c e f) : TrI X c tg e (seqS f) := by
  refine ⟨fun W tk => pi_mono (pi_seq (ha.pe W tk)) fun σ H R h => ?_⟩
  refine src_sound (k := fun xs => xs) h fun {F' H' a vs xs} ex r q y => ⟨a, rfl, ?_⟩
  rcases q with q | q
  · exact .inl ⟨⟨vs, .inl (.inl (ex _ _ q))⟩, y _ (yld_list hK r q)⟩
  · exact .inr ⟨⟨vs, by rw [← hK]; exact sqT_mono ex q⟩, y _ (yld_tup hK r q)⟩
def enumS (f : Den Hdl) : Den (List D) := fun τ => (f τ).bind fun h τ1 => match seqOf h τ1 with
  | some xs => .ok (enumFrom' 0 xs) τ1
  | none => .bad
theorem i_enum {p pos tpos : Pos} {elts : List Expr} {kk : Nat} (hK : c.K = X.K) (hm : X.mg "enumerate" = none) (ha : Tr X c e f) (hg : Gl X "enumerate" := by rfl) (hs : starEach [e] X.env = [(false, eval e X.env)] := by rfl) :
    TrI X c (.Tuple elts kk tpos) (.Call (.Name "enumerate" p) [e] [] pos) (enumS f) := by
  refine ⟨fun W tk => pi_mono (pi_enumA hg hm (pa_cons (ha.pe W tk) pa_nil hs) hs) fun σ H R h => ?_⟩
  refine src_sound (k := enumFrom' 0) h fun {F' H' a vs xs} ex r q y => ⟨a, vs, rfl, ?_⟩
  rcases q with q | q
  · exact .inl ⟨.inl (.inl (ex _ _ q)), y _ (yld_enumL r q)⟩
  · exact .inr ⟨by rw [← hK]; exact sqT_mono ex q, by rw [← hK]; exact y _ (yld_enumT r q)⟩
def inRg (i : Int) : Bool := decide (-1000000000 ≤ i) && decide (i ≤ 1000000000)
def intOf (h : Hdl) (τ : List D) : Option Int := match h.get τ with
  | .int i => if inRg i then some i else none
  | _ => none
theorem intOf_rel {F H : Hp} {σ : L2.St} {τ : List D} {S A : List Addr} {h : Hdl} {v : V} {i : Int} (sa : SA c F H σ τ S) (r : RelH c F H σ h v A) (e : intOf h τ = some i) : v = .int i ∧ -1000000000 ≤ i ∧ i ≤ 1000000000 := by
  unfold intOf at e
  rcases r.get sa with z | ⟨B, q⟩
  · rw [z] at e; cases e
  · cases hd : h.get τ <;> rw [hd] at e q <;> first | (cases e; done) | skip
    rename_i j
    have e : (if inRg j then some j else none) = some i := e
    split at e <;> cases e
    rename_i hr
    rw [inRg, Bool.and_eq_true, decide_eq_true_eq, decide_eq_true_eq] at hr
    exact ⟨q.1, hr⟩
def rgS1 (f : Den Hdl) : Den (List D) := fun τ => (f τ).bind fun h τ1 => match intOf h τ1 with
  | some n => .ok (rgD 0 1 n.toNat) τ1
  | none => .bad
theorem i_range1 {p pos : Pos} (hm : X.mg "range" = none) (ha : Tr X c a f) (hg : Gl X "range" := by rfl) (hs : starEach [a] X.env = [(false, eval a X.env)] := by rfl) : TrI X c tg (.Call (.Name "range" p) [a] [] pos) (rgS1 f) := by
  refine ⟨fun W tk => pi_mono (pi_range1 hg hm (pa_cons (ha.pe W tk) pa_nil hs) hs) fun σ H R h => ?_⟩
  obtain ⟨τ, F, S, sa, h⟩ := h
  refine ⟨τ, F, S, sa, ?_⟩
  unfold rgS1 at h
  cases e1 : f τ with
  | bad => rw [e1] at h; exact h
  | ex n d τ' => rw [e1] at h; exact h
  | ok h1 τ1 =>
    rw [e1] at h
    intro v1 F1 H1 A1 S1 g1 sa1 r1 nd1
    dsimp only [Rz.bind] at h
    cases e2 : intOf h1 τ1 with
    | none => rw [e2] at h; exact h.elim
    | some n =>
      rw [e2] at h
      obtain ⟨rfl, h1, h2⟩ := intOf_rel sa1 r1 e2
      exact ⟨n, rfl, by omega, by omega, h _ F1 H1 S1 (Go.less g1 fun b hb => List.mem_append_right _ hb) sa1 yld_range⟩
def rgS2 (f1 f2 : Den Hdl) : Den (List D) := fun τ => (f1 τ).bind fun h1 τ1 => (f2 τ1).bind fun h2 τ2 => match intOf h1 τ2, intOf h2 τ2 with
  | some i, some j => .ok (rgD i 1 (j - i).toNat) τ2
  | _, _ => .bad
theorem args2_sound {W : WX} {σ : L2.St} {H : Hp} {R : It → Hp → Prop} {k : Int → Int → Option (List D)} (h : tI c (fun τ => (f1 τ).bind fun h1 τ1 => (f2 τ1).bind fun h2 τ2 => match intOf h1 τ2, intOf h2 τ2 with
      | some i, some j => (match k i j with
        | some ds => .ok ds τ2
        | none => .bad)
      | _, _ => .bad) W σ H R) {R' : V → V → Hp → Prop}
    (hk : ∀ {F' H' : Hp} {i j : Int} {ds : List D}, -1000000000 ≤ i → i ≤ 1000000000 → -1000000000 ≤ j → j ≤ 1000000000 → k i j = some ds → (∀ J, Yld c J F' ds → R J H') → R' (.int i) (.int j) H') : tE c f1 W σ H fun x H1 => tE c f2 W σ H1 fun y H2 => R' x y H2 := by
  obtain ⟨τ, F, S, sa, h⟩ := h
  refine ⟨τ, F, S, sa, ?_⟩
  dsimp only at h
  cases e1 : f1 τ with
  | bad => rw [e1] at h; exact h
  | ex n d τ' => rw [e1] at h; exact h
  | ok h1 τ1 =>
    rw [e1] at h
    intro v1 F1 H1 A1 S1 g1 sa1 r1 nd1
    refine ⟨τ1, F1, S1, sa1, ?_⟩
    dsimp only [Rz.bind] at h
    cases e2 : f2 τ1 with
    | bad => rw [e2] at h; exact h
    | ex n d τ' =>
      rw [e2] at h
      exact fun cv dx F' H' S' go sa' x => h cv dx F' H' S' (Go.less (Go.trans g1 go) fun b hb => List.mem_append_right _ hb) sa' x
    | ok h2 τ2 =>
      rw [e2] at h
      intro v2 F2 H2 A2 S2 g2 sa2 r2 nd2
      dsimp only at h
      have r1' := r1.hand g2 nd1
      cases e3 : intOf h1 τ2 with
      | none => rw [e3] at h; exact h.elim
      | some i =>
        cases e4 : intOf h2 τ2 with
        | none => rw [e3, e4] at h; exact h.elim
        | some j =>
          rw [e3, e4] at h
          dsimp only at h
          obtain ⟨rfl, i1, i2⟩ := intOf_rel sa2 r1' e3
          obtain ⟨rfl, j1, j2⟩ := intOf_rel sa2 r2 e4
          cases e5 : k i j with
          | none => rw [e5] at h; exact h.elim
          | some ds =>
            rw [e5] at h
            exact hk i1 i2 j1 j2 e5 fun J y => h J F2 H2 S2 (Go.less (Go.trans g1 g2) fun b hb => List.mem_append_right _ (List.mem_append_right _ hb)) sa2 y
theorem i_range2 {p pos : Pos} (hm : X.mg "range" = none) (ha : Tr X c a f1) (hb : Tr X c b f2) (hg : Gl X "range" := by rfl) (hs : starEach [a, b] X.env = [(false, eval a X.env), (false, eval b X.env)] := by rfl) (hs2 : starEach [b] X.env = [(false, eval b X.env)] := by rfl) :
    TrI X c tg (.Call (.Name "range" p) [a, b] [] pos) (rgS2 f1 f2) := by
  refine ⟨fun W tk => pi_mono (pi_range2 hg hm (pa_cons (ha.pe W tk) (pa_cons (hb.pe W tk) pa_nil hs2) (by rw [hs, hs2])) hs hs2) fun σ H R h => ?_⟩
  exact args2_sound (k := fun i j => some (rgD i 1 (j - i).toNat)) (R' := fun x y H2 => ∃ i j : Int, [x, y] = [V.int i, V.int j] ∧ (-(2 ^ 62) ≤ i ∧ i < 2 ^ 62 ∧ -(2 ^ 62) ≤ j ∧ j < 2 ^ 62) ∧ R (Itr i (j - i).toNat) H2) h
    fun {F' H' i j ds} i1 i2 j1 j2 ek y => by
      cases ek
      exact ⟨i, j, rfl, ⟨by omega, by omega, by omega, by omega⟩, y _ yld_range⟩
/-- range(a, b, -1) -/
def rgS3 (f1 f2 : Den Hdl) : Den (List D) := fun τ => (f1 τ).bind fun h1 τ1 => (f2 τ1).bind fun h2 τ2 => match intOf h1 τ2, intOf h2 τ2 with
  | some i, some j => .ok (rgD i (-1) (i - j).toNat) τ2
  | _, _ => .bad
theorem i_range3 {p pos : Pos} {m : Expr} (hm : X.mg "range" = none) (ha : Tr X c a f1) (hb : Tr X c b f2) (hc : PE X m (tUn (rU fun i => .int (-i)) (tC (.int 1)))) (hg : Gl X "range" := by rfl)
    (hs : starEach [a, b, m] X.env = (false, eval a X.env) :: starEach [b, m] X.env := by rfl) (hs2 : starEach [b, m] X.env = (false, eval b X.env) :: starEach [m] X.env := by rfl) (hs3 : starEach [m] X.env = (false, eval m X.env) :: starEach [] X.env := by rfl) (hpl : (backTo pos (starEach [b, m] X.env)).any (·.1) = false := by rfl) :
    TrI X c tg (.Call (.Name "range" p) [a, b, m] [] pos) (rgS3 f1 f2) := by
  refine ⟨fun W tk => pi_mono (pi_range3 hg hm (pa_cons (ha.pe W tk) (pa_cons (hb.pe W tk) (pa_cons hc pa_nil hs3) hs2) hs) hs hpl) fun σ H R h => ?_⟩
  exact args2_sound (k := fun i j => some (rgD i (-1) (i - j).toNat)) (R' := fun x y H2 => ∃ q : Int, V.int 1 = .int q ∧ ∃ (i j k : Int) (n : Nat), [x, y, V.int (-q)] = [V.int i, V.int j, V.int k] ∧ RgC i j k n ∧ R (Itc i k n) H2) h
    fun {F' H' i j ds} i1 i2 j1 j2 ek y => by
      cases ek
      exact ⟨1, rfl, i, j, -1, (i - j).toNat, rfl, RgC.neg (by omega) (by omega) (by omega) (by omega), y _ yld_rangeC⟩

/-! ### comprehensions -/
def wipeD (τ : List D) : List Nat → List D
  | [] => τ
  | v :: vs => (wipeD τ vs).set v .un
/-- behind a comprehension its own names are as they were (what they owned is forgotten) -/
def backD (τ0 : List D) : List D → List Nat → List D
  | τ, [] => τ
  | τ, v :: vs => backD τ0 (τ.set v (match τ0[v]? with
    | some d => if d.pl then d else .un
    | none => .un)) vs
def lcL (t : D → List D → Option (List D)) (q : Den Bool) (f : Den Hdl) (ow : List Nat) : List D → List D → List D → Rz (List D)
  | [], acc, τ => .ok acc τ
  | d :: ds, acc, τ => match t d (wipeD τ ow) with
    | some τ1 => (match q τ1 with
      | .ok true τ2 => (match f τ2 with
        | .ok (.val d') τ3 => if acc.length ≤ 100000 then lcL t q f ow ds (acc ++ [d']) τ3 else .bad
        | _ => .bad)
      | .ok false τ2 => lcL t q f ow ds acc τ2
      | _ => .bad)
    | none => .bad
def lcE (src : Den (List D)) (t : D → List D → Option (List D)) (q : Den Bool) (f : Den Hdl) (ow : List Nat) : Den Hdl := fun τ => match src τ with
  | .ok ds τ1 => (match lcL t q f ow ds [] τ1 with
    | .ok acc τ2 => .ok (.val (.lst true acc)) (backD τ1 (wipeD τ2 ow) ow)
    | _ => .bad)
  | .ex n d τ1 => .ex n d τ1
  | .bad => .bad
def yesT : Den Bool := fun τ => .ok true τ
structure TrTs (X : Cx) (c : Ctx) (es : List Expr) (f : Den Bool) : Prop where
  pts : ∀ W, Takes X W → PTs X es (tT c f W)
theorem pts_mono {t t' : TT} (h : PTs X es t) (k : ∀ σ H Q, t' σ H Q → t σ H Q) : PTs X es t' := ⟨fun pins s σ H Q I q => h.run pins s σ H Q I (k σ H Q q)⟩
theorem tts_nil : TrTs X c [] yesT := by
  refine ⟨fun W _ => pts_mono pts_nil fun σ H Q h => ?_⟩
  obtain ⟨τ, F, S, sa, h⟩ := h
  exact (show Post c (fun _ _ (a : Bool) b A => b = a ∧ A = []) W F H σ S Q (.ok true τ) from h) true F H [] S Go.refl sa ⟨rfl, rfl⟩ sa.nd
theorem tts_one {p : Den Bool} (h : TrT X c e p) : TrTs X c [e] p := ⟨fun W tk => pts_one (h.pt W tk)⟩
end
section
variable {c : Ctx} {F H : Hp} {σ : L2.St} {τ : List D} {S A : List Addr}
theorem SA.wipe1 (sa : SA c F H σ τ S) {i : Nat} (hf : c.fx i = false) : ∃ S', SA c F H (σ.set i none) (τ.set i .un) S' ∧ ∀ b ∈ S', b ∈ S := by
  have fx : ∀ j, c.fx j = true → (σ.set i none)[j]? = c.σ0[j]? := fun j hj => by
    have ne : i ≠ j := fun z => by
      subst z
      rw [hf] at hj
      cases hj
    rw [List.getElem?_set_ne ne]
    exact sa.fx j hj
  cases hi : τ[i]? with
  | none =>
    have l1 := sa.sl.length
    have l2 := List.getElem?_eq_none_iff.mp hi
    refine ⟨S, ⟨sa.ex, sa.nt, sa.fb, sa.tb, ?_, sa.nd, fx⟩, fun b hb => hb⟩
    rw [List.set_eq_of_length_le (by omega), List.set_eq_of_length_le (by omega)]
    exact sa.sl
  | some d0 =>
    obtain ⟨x, A0, B1, B2, e1, rfl, r1, k⟩ := Slots.at sa.sl hi
    have n2 := List.nodup_append.mp sa.nd
    have n3 := List.nodup_append.mp n2.2.1
    refine ⟨B1 ++ ([] ++ B2), ⟨sa.ex, sa.nt, sa.fb, sa.tb, k F H none .un [] (fun _ _ h => h) (fun b hb => ⟨rfl, (sa.owned b ?_).1⟩) rfl, ?_, fx⟩, fun b hb => ?_⟩
    · rcases List.mem_append.mp hb with y | y
      · exact List.mem_append_left _ y
      · exact List.mem_append_right _ (List.mem_append_right _ y)
    · exact List.nodup_append.mpr ⟨n2.1, n3.2.1, fun x hx y hy => n2.2.2 x hx y (List.mem_append_right _ hy)⟩
    · rcases List.mem_append.mp hb with y | y
      · exact List.mem_append_left _ y
      · exact List.mem_append_right _ (List.mem_append_right _ y)
theorem SA.wipe (sa : SA c F H σ τ S) : ∀ {ow : List Nat}, (∀ i ∈ ow, c.fx i = false) → ∃ S', SA c F H (L2.wipe σ ow) (wipeD τ ow) S' ∧ ∀ b ∈ S', b ∈ S
  | [], _ => ⟨S, sa, fun b hb => hb⟩
  | i :: ow, hf => by
    obtain ⟨S1, s1, h1⟩ := SA.wipe sa (ow := ow) fun j hj => hf j (List.mem_cons_of_mem _ hj)
    obtain ⟨S2, s2, h2⟩ := s1.wipe1 (hf i List.mem_cons_self)
    exact ⟨S2, s2, fun b hb => h1 b (h2 b hb)⟩
theorem wipe_at : ∀ {ow : List Nat} {j : Nat}, j ∉ ow → (L2.wipe σ ow)[j]? = σ[j]?
  | [], j, _ => rfl
  | i :: ow, j, h => by
    show ((L2.wipe σ ow).set i none)[j]? = _
    rw [List.getElem?_set_ne (fun z => h (by simp [z])), wipe_at fun z => h (List.mem_cons_of_mem _ z)]
theorem wipe_none : ∀ {ow : List Nat} {j : Nat}, j ∈ ow → j < σ.length → (L2.wipe σ ow)[j]? = some none
  | i :: ow, j, h, hl => by
    show ((L2.wipe σ ow).set i none)[j]? = _
    by_cases e : i = j
    · subst e
      rw [List.getElem?_set_self (by rw [wipe_length]; exact hl)]
    · rw [List.getElem?_set_ne e]
      exact wipe_none ((List.mem_cons.mp h).resolve_left fun z => e z.symm) hl
/-- two states that part in ow alone are wiped alike -/
theorem wipe_keep {σ' : L2.St} {o2 ow : List Nat} (k : Keep o2 (L2.wipe σ ow) σ') (h : ∀ i ∈ o2, i ∈ ow) : L2.wipe σ' ow = L2.wipe σ ow := by
  apply List.ext_getElem?
  intro j
  have hl : σ'.length = σ.length := by rw [k.1, wipe_length]
  by_cases hj : j ∈ ow
  · by_cases hlt : j < σ.length
    · rw [wipe_none hj hlt, wipe_none hj (by omega)]
    · rw [List.getElem?_eq_none (by rw [wipe_length]; omega), List.getElem?_eq_none (by rw [wipe_length]; omega)]
  · rw [wipe_at hj, wipe_at hj, k.2 j fun z => hj (h j z), wipe_at hj]
theorem SA.back1 {F0 H0 : Hp} {τ0 : List D} {S0 : List Addr} (s0 : SA c F0 H0 σ τ0 S0) (hF : ∀ b o, F0 b = some o → F b = some o) {σ' : L2.St} (sa : SA c F H σ' τ S) {i : Nat} (hl : σ'.length = σ.length) (hf : c.fx i = false) :
    ∃ S', SA c F H (σ'.set i ((σ[i]?).getD none)) (τ.set i (match τ0[i]? with
      | some d => if d.pl then d else .un
      | none => .un)) S' ∧ ∀ b ∈ S', b ∈ S := by
  obtain ⟨S1, s1, h1⟩ := sa.wipe1 hf
  have e1 : ∀ (x : Option V) (d : D), ((σ'.set i none).set i x) = σ'.set i x ∧ ((τ.set i .un).set i d) = τ.set i d := fun x d => ⟨List.set_set .., List.set_set ..⟩
  cases h0 : τ0[i]? with
  | none =>
    have l1 := s0.sl.length
    have l2 := List.getElem?_eq_none_iff.mp h0
    have e : σ[i]? = none := List.getElem?_eq_none (by omega)
    rw [e]
    exact ⟨S1, s1, h1⟩
  | some d =>
    obtain ⟨x, A0, B1, B2, ex, _, r1, _⟩ := Slots.at s0.sl h0
    rw [ex]
    dsimp only [Option.getD]
    have put_un : ∃ S', SA c F H (σ'.set i x) (τ.set i .un) S' ∧ ∀ b ∈ S', b ∈ S := by
      cases x with
      | none => exact ⟨S1, s1, h1⟩
      | some v =>
        obtain ⟨S2, s2, h2⟩ := s1.put (i := i) (d := .non) (v := .non) (A := []) ⟨rfl, rfl⟩ s1.nd hf
        cases hi : (τ.set i .un)[i]? with
        | none =>
          have q := List.getElem?_eq_none_iff.mp hi
          rw [List.length_set] at q
          have l3 := sa.sl.length
          have l4 := s0.sl.length
          have := (List.getElem?_eq_some_iff.mp ex).1
          omega
        | some d1 =>
          obtain ⟨x1, A1, C1, C2, ey, es, r2, k⟩ := Slots.at s1.sl hi
          have q := k F H (some v) .un [] (fun _ _ h => h) (fun b hb => ⟨rfl, (s1.owned b (by
            rw [es]
            rcases List.mem_append.mp hb with y | y
            · exact List.mem_append_left _ y
            · exact List.mem_append_right _ (List.mem_append_right _ y))).1⟩) rfl
          rw [(e1 (some v) .un).1, (e1 (some v) .un).2] at q
          have sub : ∀ b ∈ C1 ++ ([] ++ C2), b ∈ S1 := fun b hb => by
            rw [es]
            rcases List.mem_append.mp hb with y | y
            · exact List.mem_append_left _ y
            · exact List.mem_append_right _ (List.mem_append_right _ y)
          have nds := s1.nd
          rw [es] at nds
          have n2 := List.nodup_append.mp nds
          have n3 := List.nodup_append.mp n2.2.1
          refine ⟨C1 ++ ([] ++ C2), ⟨s1.ex, s1.nt, s1.fb, s1.tb, q, List.nodup_append.mpr ⟨n2.1, n3.2.1, fun x hx y hy => n2.2.2 x hx y (List.mem_append_right _ hy)⟩, fun j hj => ?_⟩, fun b hb => h1 b (sub b hb)⟩
          have ne : i ≠ j := fun z => by
            subst z
            rw [hf] at hj
            cases hj
          rw [List.getElem?_set_ne ne]
          exact sa.fx j hj
    by_cases hp : d.pl = true
    · rw [if_pos hp]
      rcases slotR_of r1 with ⟨rfl, _⟩ | ⟨v, rfl, r⟩
      · cases hp
      · have r' : Rel c F H d v [] := Rel.any r hp hF
        obtain ⟨S2, s2, h2⟩ := s1.put (i := i) (d := d) (v := v) (A := []) r' s1.nd hf
        rw [(e1 (some v) d).1, (e1 (some v) d).2] at s2
        exact ⟨S2, s2, fun b hb => h1 b (h2 b hb)⟩
    · rw [if_neg hp]
      exact put_un
theorem wipe_back : ∀ {ow : List Nat} {σ' : L2.St}, σ'.length = σ.length → (∀ j, j ∉ ow → σ'[j]? = σ[j]?) → ow.foldl (fun s i => s.set i ((σ[i]?).getD none)) σ' = σ
  | [], σ', hl, h => List.ext_getElem? fun j => h j (by simp)
  | i :: ow, σ', hl, h => by
    rw [List.foldl_cons]
    refine wipe_back (by rw [List.length_set]; exact hl) fun j hj => ?_
    by_cases e : i = j
    · subst e
      by_cases hlt : i < σ.length
      · rw [List.getElem?_set_self (by omega), List.getElem?_eq_getElem hlt]
        rfl
      · rw [List.getElem?_eq_none (by rw [List.length_set]; omega), List.getElem?_eq_none (by omega)]
    · rw [List.getElem?_set_ne e]
      exact h j fun z => by
        rcases List.mem_cons.mp z with z | z
        · exact e z.symm
        · exact hj z
theorem SA.backs {F0 H0 : Hp} {τ0 : List D} {S0 : List Addr} (s0 : SA c F0 H0 σ τ0 S0) (hF : ∀ b o, F0 b = some o → F b = some o) : ∀ {ow : List Nat} {σ' : L2.St} {τ : List D} {S : List Addr}, (∀ i ∈ ow, c.fx i = false) → SA c F H σ' τ S → σ'.length = σ.length →
    ∃ S', SA c F H (ow.foldl (fun s i => s.set i ((σ[i]?).getD none)) σ') (backD τ0 τ ow) S' ∧ ∀ b ∈ S', b ∈ S
  | [], σ', τ, S, _, sa, _ => ⟨S, sa, fun b hb => hb⟩
  | i :: ow, σ', τ, S, hf, sa, hl => by
    obtain ⟨S1, s1, h1⟩ := SA.back1 s0 hF sa hl (hf i List.mem_cons_self)
    obtain ⟨S2, s2, h2⟩ := SA.backs s0 hF (ow := ow) (fun j hj => hf j (List.mem_cons_of_mem _ hj)) s1 (by rw [List.length_set]; exact hl)
    exact ⟨S2, s2, fun b hb => h1 b (h2 b hb)⟩
end
end Y
end

section
set_option Elab.async false
set_option linter.all false
set_option maxRecDepth 100000
set_option maxHeartbeats 4000000
/-! Y8: comprehensions are sound. -/
namespace Y
open PySem PySem.Spec PyProof.Rows L2

section
variable {c : Ctx} {F H F1 H1 F2 H2 : Hp} {σ : L2.St} {τ : List D} {S S1 A B : List Addr}
/-- a list in hand that is being made -/
structure Hand (c : Ctx) (F H : Hp) (L : Addr) (acc : List D) (vs : List V) (B S : List Addr) : Prop where
  at_ : H L = some (.lst vs)
  nf : F L = none
  rel : Rels c F H acc vs B
  nd : (L :: B ++ S).Nodup
theorem Hand.owned {L : Addr} {acc : List D} {vs : List V} (h : Hand c F H L acc vs B S) : ∀ x ∈ L :: B, F x = none ∧ ∃ o, H x = some o ∧ ∀ ps, o ≠ .tbl ps := fun x hx => by
  rcases List.mem_cons.mp hx with rfl | hx
  · exact ⟨h.nf, _, h.at_, fun ps z => by cases z⟩
  · exact h.rel.owned x hx
theorem Hand.go {L : Addr} {acc : List D} {vs : List V} (h : Hand c F H L acc vs B S) (g : Go F H S F1 H1 S1) (n : S1.Nodup) : Hand c F1 H1 L acc vs B S1 := by
  have k := g.hand h.owned h.nd
  refine ⟨(k L List.mem_cons_self).1.trans h.at_, (k L List.mem_cons_self).2.1, Rels.mono g.f h.rel fun x hx => ⟨(k x (List.mem_cons_of_mem _ hx)).1, (k x (List.mem_cons_of_mem _ hx)).2.1⟩, nodup_hand g h.owned h.nd n⟩
theorem Hand.less {L : Addr} {acc : List D} {vs : List V} (h : Hand c F H L acc vs B S) (sub : ∀ b ∈ S1, b ∈ S) (n : S1.Nodup) : Hand c F H L acc vs B S1 := h.go (Go.less Go.refl sub) n
/-- a thing is put behind -/
theorem Hand.app {L : Addr} {acc : List D} {vs : List V} {d : D} {v : V} (h : Hand c F H L acc vs B (A ++ S)) (sa : SA c F H σ τ S) (r : Rel c F H d v A) (nd : (A ++ S).Nodup) :
    Hand c F (upd H L (.lst (vs ++ [v]))) L (acc ++ [d]) (vs ++ [v]) (B ++ A) S ∧ SA c F (upd H L (.lst (vs ++ [v]))) σ τ S ∧ Go F H (L :: B ++ (A ++ S)) F (upd H L (.lst (vs ++ [v]))) (L :: (B ++ A) ++ S) := by
  have n1 := List.nodup_cons.mp (show (L :: (B ++ (A ++ S))).Nodup from h.nd)
  have nL : ∀ x, x ∈ B ++ (A ++ S) → x ≠ L := fun x hx z => n1.1 (z ▸ hx)
  have e : ∀ x ∈ B ++ (A ++ S), upd H L (.lst (vs ++ [v])) x = H x := fun x hx => upd_ne (nL x hx)
  have memS : ∀ x ∈ S, x ∈ B ++ (A ++ S) := fun x hx => List.mem_append_right _ (List.mem_append_right _ hx)
  have F_ : ∀ b o, F b = some o → b ≠ L := fun b o hb z => by rw [z, h.nf] at hb; cases hb
  refine ⟨⟨upd_same, h.nf, ?_, ?_⟩, ⟨fun b o hb => ?_, sa.nt, sa.fb, ?_, Slots.mono (fun _ _ h => h) sa.sl fun x hx => ⟨e x (memS x hx), (sa.owned x hx).1⟩, sa.nd, sa.fx⟩, ?_⟩
  · refine (Rels.mono (fun _ _ h => h) h.rel fun x hx => ⟨e x (List.mem_append_left _ hx), (h.rel.owned x hx).1⟩).append ?_
    have q : Rel c F (upd H L (.lst (vs ++ [v]))) d v A := Rel.mono (fun _ _ h => h) r fun x hx => ⟨e x (List.mem_append_right _ (List.mem_append_left _ hx)), (r.owned x hx).1⟩
    exact ⟨v, [], A, [], rfl, by simp, q, rfl, rfl⟩
  · have q := h.nd
    simpa using q
  · rw [upd_ne (F_ b o hb)]
    exact sa.ex b o hb
  · have noL : ∀ {b : Addr} {q : Str}, H b = some (LamX.CodeO b q) → b ≠ L := fun {b q} e z => by
      rw [z, h.at_] at e
      have e3 := Option.some.inj e
      unfold LamX.CodeO at e3
      cases e3
    refine ⟨fun p hp => ?_, fun p hp => by rw [upd_ne (noL (sa.tb.code p hp))]; exact sa.tb.code p hp⟩
    obtain ⟨ps, h1, h2, h3⟩ := sa.tb.tabs p hp
    have np : p.1 ≠ L := fun z => by
      rw [z, h.at_] at h1
      cases h1
    refine ⟨ps, by rw [upd_ne np]; exact h1, h2, fun pos cv hc => ?_⟩
    obtain ⟨c0, e1, e2⟩ := h3 pos cv hc
    exact ⟨c0, e1, by rw [upd_ne (noL e2)]; exact e2⟩
  · refine ⟨fun _ _ h => h, fun b o hb _ hx => ?_, fun b hb => .inl ?_, fun _ _ h => .inl h⟩
    · rw [upd_ne (fun z => hx (by rw [z]; simp))]
      exact hb
    · simpa using hb
end
section
variable {X : Cx} {c : Ctx} {tg iter elt : Expr} {ifs : List Expr} {src : Den (List D)} {t : D → List D → Option (List D)} {q : Den Bool} {f : Den Hdl} {ow o2 : List Nat}
theorem lc_sound {W : WX} {σ : L2.St} {H : Hp} {Q : VK} (hfx : ∀ i ∈ ow, c.fx i = false) (ho : ∀ i ∈ o2, i ∈ ow) (h : tE c (lcE src t q f ow) W σ H Q) :
    tLc (tI c src W) (tG c o2 t) (tT c q fun _ _ _ _ => False) (tE c f fun _ _ _ _ => False) ow σ H Q := by
  obtain ⟨τ, F, S, sa, h⟩ := h
  refine ⟨τ, F, S, sa, ?_⟩
  unfold lcE at h
  cases e1 : src τ with
  | bad => rw [e1] at h; exact h
  | ex n d τ' => rw [e1] at h; exact h
  | ok ds τ1 =>
    rw [e1] at h
    intro J F1 H1 S1 g1 sa1 y L hL
    dsimp only at h
    cases e2 : lcL t q f ow ds [] τ1 with
    | bad => rw [e2] at h; exact h.elim
    | ex n d τ' => rw [e2] at h; exact h.elim
    | ok accF τF =>
      rw [e2] at h
      have h : Post c (fun F H => RelH c F H σ) W F H σ S Q (.ok (.val (.lst true accF)) (backD τ1 (wipeD τF ow) ow)) := h
      have gr0 : Grow F1 H1 F1 (upd H1 L (.lst [])) [L] := grow_own sa1.ex hL
      obtain ⟨sa1', nd1'⟩ := gr0.sa sa1
      obtain ⟨Sw, saw, hw⟩ := sa1'.wipe hfx
      have LS : L ∉ S1 := fun z => by
        obtain ⟨_, o, h2, _⟩ := sa1.owned L z
        rw [hL] at h2
        cases h2
      refine ⟨fun i m H2 => m = ds.length - i ∧ ∃ τ2 F2 S2 acc vs B, (∀ b o, F1 b = some o → F2 b = some o) ∧ SA c F2 H2 (L2.wipe σ ow) (wipeD τ2 ow) S2 ∧ Hand c F2 H2 L acc vs B S2 ∧ Go F1 H1 S1 F2 H2 (L :: B ++ S2) ∧ lcL t q f ow (ds.drop i) acc τ2 = .ok accF τF,
        ⟨ds.length, rfl, τ1, F1, Sw, [], [], [], fun _ _ h => h, saw, ⟨upd_same, ?_, Rels.nil, ?_⟩, ?_, e2⟩, ?_⟩
      · cases z : F1 L with
        | none => rfl
        | some o =>
          rw [sa1.ex L o z] at hL
          cases hL
      · exact List.nodup_cons.mpr ⟨fun z => LS (hw L z), saw.nd⟩
      · exact Go.less (gr0.go S1) fun b hb => by
          rcases List.mem_cons.mp hb with rfl | hb
          · simp
          · exact List.mem_append_right _ (hw b hb)
      · rintro i m H2 ⟨rfl, τ2, F2, S2, acc, vs, B, ff, sa2, hd2, go2, el⟩
        have fh : ∀ b o, F1 b = some o → H2 b = some o := fun b o z => sa2.ex b o (ff b o z)
        by_cases hlt : i < ds.length
        · refine .inr ⟨y.go i H2 fh hlt, fun H' => ∃ τ2 F2 S2 acc vs B, (∀ b o, F1 b = some o → F2 b = some o) ∧ SA c F2 H' (L2.wipe σ ow) (wipeD τ2 ow) S2 ∧ Hand c F2 H' L acc vs B S2 ∧ Go F1 H1 S1 F2 H' (L :: B ++ S2) ∧ lcL t q f ow (ds.drop (i + 1)) acc τ2 = .ok accF τF,
            fun H' q => ⟨ds.length - (i + 1), by omega, rfl, q⟩, fun x H3 hy => ?_⟩
          obtain ⟨d, F3, hd, gr, rr⟩ := y.yld i F2 H2 x H3 ff sa2.ex hlt hy
          obtain ⟨sa3, _⟩ := gr.sa sa2
          have go3 : Go F2 H2 S2 F3 H3 S2 := gr.go S2
          have hd3 := hd2.go go3 sa3.nd
          have g3 : Go F1 H1 S1 F3 H3 (L :: B ++ S2) := Go.trans go2 go3
          have f3 : ∀ b o, F1 b = some o → F3 b = some o := fun b o z => gr.f b o (ff b o z)
          rw [drop_at hd] at el
          have el : (match t d (wipeD τ2 ow) with
            | some τ1 => (match q τ1 with
              | .ok true τ2 => (match f τ2 with
                | .ok (.val d') τ3 => if acc.length ≤ 100000 then lcL t q f ow (ds.drop (i + 1)) (acc ++ [d']) τ3 else .bad
                | _ => .bad)
              | .ok false τ2 => lcL t q f ow (ds.drop (i + 1)) acc τ2
              | _ => .bad)
            | none => .bad) = .ok accF τF := el
          cases e3 : t d (wipeD τ2 ow) with
          | none => rw [e3] at el; cases el
          | some τ3 =>
            rw [e3] at el
            dsimp only at el
            refine ⟨wipeD τ2 ow, F3, S2, d, [], sa3, rr, sa3.nd, τ3, e3, fun σ4 S4 sa4 hm4 kp => ⟨wipe_keep kp ho, τ3, F3, S4, sa4, ?_⟩⟩
            have hd4 : Hand c F3 H3 L acc vs B S4 := hd3.less hm4 sa4.nd
            have g4 : Go F1 H1 S1 F3 H3 (L :: B ++ S4) := Go.less g3 fun b hb => by
              rcases List.mem_append.mp hb with z | z
              · exact List.mem_append_left _ z
              · exact List.mem_append_right _ (hm4 b z)
            cases e4 : q τ3 with
            | bad => rw [e4] at el; cases el
            | ex n d τ' => rw [e4] at el; cases el
            | ok b τ4 =>
              rw [e4] at el
              intro b' F5 H5 A5 S5 g5 sa5 r5 nd5
              obtain ⟨rfl, rfl⟩ := r5
              have hd5 := hd4.go g5 sa5.nd
              have g5' : Go F1 H1 S1 F5 H5 (L :: B ++ S5) := Go.trans g4 g5
              have f5 : ∀ b o, F1 b = some o → F5 b = some o := fun b o z => g5.f b o (f3 b o z)
              cases b' with
              | false =>
                refine iteF ?_
                obtain ⟨S6, sa6, hm6⟩ := sa5.wipe hfx
                rw [wipe_keep kp ho] at sa6
                exact ⟨τ4, F5, S6, acc, vs, B, f5, sa6, hd5.less hm6 sa6.nd, Go.less g5' fun b hb => by
                  rcases List.mem_append.mp hb with z | z
                  · exact List.mem_append_left _ z
                  · exact List.mem_append_right _ (hm6 b z), el⟩
              | true =>
                refine iteT ⟨τ4, F5, S5, sa5, ?_⟩
                dsimp only at el
                cases e5 : f τ4 with
                | bad => rw [e5] at el; cases el
                | ex n d τ' => rw [e5] at el; cases el
                | ok hh τ5 =>
                  rw [e5] at el
                  cases hh with
                  | slot j => cases el
                  | val d' =>
                    dsimp only at el
                    by_cases hz : acc.length ≤ 100000
                    · rw [if_pos hz] at el
                      intro v6 F6 H6 A6 S6 g6 sa6 r6 nd6
                      have hd6 := hd5.go g6 nd6
                      have g6' : Go F1 H1 S1 F6 H6 (L :: B ++ (A6 ++ S6)) := Go.trans g5' g6
                      obtain ⟨hd7, sa7, g7⟩ := hd6.app sa6 r6 nd6
                      obtain ⟨S8, sa8, hm8⟩ := sa7.wipe hfx
                      rw [wipe_keep kp ho] at sa8
                      refine ⟨vs, hd6.at_, Nat.lt_of_le_of_lt (by rw [hd6.rel.length]; exact hz) (by decide), τ5, F6, S8, acc ++ [d'], vs ++ [v6], B ++ A6, fun b o z => g6.f b o (f5 b o z), sa8, hd7.less hm8 sa8.nd, Go.less (Go.trans0 g6' g7) fun b hb => ?_, el⟩
                      rcases List.mem_append.mp hb with z | z
                      · exact List.mem_append_left _ z
                      · exact List.mem_append_right _ (hm8 b z)
                    · rw [if_neg hz] at el
                      cases el
        · refine .inl ⟨y.stop i H2 fh (by omega), ?_⟩
          rw [List.drop_eq_nil_of_le (by omega)] at el
          have el : (.ok acc τ2 : Rz (List D)) = .ok accF τF := el
          cases el
          obtain ⟨S3, sa3, hm3⟩ := SA.backs sa1 ff hfx sa2 (wipe_length _ _)
          rw [wipe_back (wipe_length _ _) fun j hj => wipe_at hj] at sa3
          have hd3 := hd2.less hm3 sa3.nd
          refine h (.ref L) F2 H2 (L :: B) S3 (Go.trans0 g1 (Go.less go2 fun b hb => ?_)) sa3 ⟨L, vs, B, rfl, hd2.at_, hd2.nf, rfl, hd2.rel⟩ hd3.nd
          rcases List.mem_append.mp hb with z | z
          · exact List.mem_append_left _ z
          · exact List.mem_append_right _ (hm3 b z)
theorem takesF {X : Cx} : Takes X (fun _ _ _ _ => False) := fun _ _ x => by
  obtain ⟨_, _, _, _, _, _, _, _, _, _, _, _, _, _, _, _, z⟩ := x
  exact z.elim
theorem t_lc {scope : Scope} {own : List (Str × Nat)} {pos : Pos} (hc : X.calm = true) (hN : X.N.Nodup) (hfx : ∀ i ∈ own.map (·.2), c.fx i = false) (ho : ∀ i ∈ o2, i ∈ own.map (·.2)) (hi : TrI X c tg iter src) (ok : BlkOk X.N X.env.scope scope own)
    (hg : ∀ (s : Shared) (H : Hp) (C : Addr) (cl : List (Str × Addr)) (fp : List Addr), TrG (X.blk s H scope (compEnvC scope cl C X.env) fp) c tg o2 t)
    (ht : ∀ (s : Shared) (H : Hp) (C : Addr) (cl : List (Str × Addr)) (fp : List Addr), TrTs (X.blk s H scope (compEnvC scope cl C X.env) fp) c ifs q)
    (he : ∀ (s : Shared) (H : Hp) (C : Addr) (cl : List (Str × Addr)) (fp : List Addr), Tr (X.blk s H scope (compEnvC scope cl C X.env) fp) c elt f) (hs : ∀ x, foldedSetIterable iter X.env x = pure x := by intro _; rfl) :
    Tr X c (.ListComp elt [⟨tg, iter, ifs, 0⟩] scope pos) (lcE src t q f (own.map (·.2))) :=
  ⟨fun W tk => pe_mono (pe_lc hc hN (hi.pi W tk) ok (fun s H C cl fp => (hg s H C cl fp).pg) (fun s H C cl fp => (ht s H C cl fp).pts _ takesF) (fun s H C cl fp => (he s H C cl fp).pe _ takesF) hs) fun σ H Q h => lc_sound hfx ho h⟩
theorem s_setLc {i : Nat} {y : Str} {py : Pos} {scope : Scope} {own : List (Str × Nat)} {pos spos : Pos} (hc : X.calm = true) (hN : X.N.Nodup) (hy : X.N[i]? = some y) (hyl : X.env.scope.names.lookup y = some .local) (hf : c.fx i = false)
    (hsw : swapsWith (.ListComp elt [⟨tg, iter, ifs, 0⟩] scope pos) (some (.Name y py)) spos.line X.env = pure true) (hfx : ∀ i ∈ own.map (·.2), c.fx i = false) (ho : ∀ i ∈ o2, i ∈ own.map (·.2)) (hi : TrI X c tg iter src) (ok : BlkOk X.N X.env.scope scope own)
    (hg : ∀ (s : Shared) (H : Hp) (C : Addr) (cl : List (Str × Addr)) (fp : List Addr), TrG (X.blk s H scope (compEnvC scope cl C X.env) fp) c tg o2 t)
    (ht : ∀ (s : Shared) (H : Hp) (C : Addr) (cl : List (Str × Addr)) (fp : List Addr), TrTs (X.blk s H scope (compEnvC scope cl C X.env) fp) c ifs q)
    (he : ∀ (s : Shared) (H : Hp) (C : Addr) (cl : List (Str × Addr)) (fp : List Addr), Tr (X.blk s H scope (compEnvC scope cl C X.env) fp) c elt f) (hs : ∀ x, foldedSetIterable iter X.env x = pure x := by intro _; rfl) :
    Ts X c (.Assign [.Name y py] (.ListComp elt [⟨tg, iter, ifs, 0⟩] scope pos) spos) (sSet i (lcE src t q f (own.map (·.2)))) :=
  ⟨fun W tk => ps_mono (ps_setLc hc hN hy hyl hsw (hi.pi W tk) ok (fun s H C cl fp => (hg s H C cl fp).pg) (fun s H C cl fp => (ht s H C cl fp).pts _ takesF) (fun s H C cl fp => (he s H C cl fp).pe _ takesF) hs) fun E σ H h => by
    have q := sSet_sound hf h
    exact lc_sound hfx ho q⟩
end
end Y
end

section
set_option Elab.async false
set_option linter.all false
set_option maxRecDepth 100000
set_option maxHeartbeats 4000000
/-! Y9: defs and calls. -/
namespace Y
open PySem PySem.Spec PyProof.Rows L2

inductive Rt where
  | ok (d : D) (ps : List D) | ex (n : Str) (d : D) | bad
/-- what stands behind a call: frozen heap, tables -/
structure Fin' (c : Ctx) (F H : Hp) : Prop where
  ex : ∀ b o, F b = some o → H b = some o
  nt : ∀ b ps, F b ≠ some (.tbl ps)
  tb : Tb c H
/-- the promise of a def that computes den -/
def spY (c : Ctx) (den : List D → Rt) : Sp := fun vs H Q E => ∃ F ds A, Fin' c F H ∧ (∀ b o, c.FB b = some o → F b = some o) ∧ Rels c F H ds vs A ∧ A.Nodup ∧
  match den ds with
  | .ok d ps => ∀ v F' H' B B', Go F H A F' H' (B ++ B') → Fin' c F' H' → Rel c F' H' d v B → Slots c F' H' (vs.map some) ps B' → (B ++ B').Nodup → Q v H'
  | .ex n d => ∀ cv dx F' H', Go F H A F' H' [] → Fin' c F' H' → ExP c F' H' n d cv dx → E cv dx H'
  | .bad => False
/-- what a closure's call gives: in any state from s0 on -/
def spZ (c : Ctx) (r : D) : Hp → VK → XK → Prop := fun H Q E => ∃ F, Fin' c F H ∧ (∀ b o, c.FB b = some o → F b = some o) ∧
  match r with
  | .tok d => ∀ v F' H' B, Go F H [] F' H' B → Fin' c F' H' → Rel c F' H' d v B → B.Nodup → Q v H'
  | .tex n d => ∀ cv dx F' H', Go F H [] F' H' [] → Fin' c F' H' → ExP c F' H' n d cv dx → E cv dx H'
  | _ => False
structure Clo (P : Program) (w : World) (K : PySem.W.Frag) (mg : Str → Option Value) (base : Heap) (c : Ctx) (LC : Nat) (out0 : List Env) (f : Addr) (r : D) (s0 : Shared) (H0 : Hp) : Prop where
  fn : PySem.W.FnAt f s0.heap
  no : H0 f = none
  run : ∀ (A : Around) (outer : List Env) (s1 : Shared) (H1 : Hp) (fs : List Addr) (Q : VK) (E : XK), Room LC A → Env0 P w K mg base A outer s1 H1 → (∀ b o, s0.heap.get? b = some o → b ∈ fs → b ∈ frs out0) → Un fs [] H0 H1 s0.heap s1.heap → spZ c r H1 Q E →
    codeAny (model P w) A (.call (.ref f) ⟨[], []⟩) (CR (L2.CX P w) outer P w H1 s1 Q E) s1
/-- all closures in sight -/
def CloG (P : Program) (w : World) (K : PySem.W.Frag) (mg : Str → Option Value) (base : Heap) (c : Ctx) (LC : Nat) (out0 : List Env) (s0 : Shared) (H0 : Hp) : Prop := ∀ f r, c.G f = some r → Clo P w K mg base c LC out0 f r s0 H0
theorem Un.two {fs fs' : List Addr} {H H1 H2 : Hp} {h h1 h2 : Heap} (a : Un fs [] H H1 h h1) (b : Un fs' [] H1 H2 h1 h2) : Un (fs ++ fs') [] H H2 h h2 :=
  (a.mono (fun b hb => List.mem_append_left _ hb) fun b hb => hb).trans (b.mono (fun b hb => List.mem_append_right _ hb) fun b hb => hb)
/-- a def at f computes den -/
structure FnY (P : Program) (w : World) (K : PySem.W.Frag) (mg : Str → Option Value) (base : Heap) (T : List (Addr × Str)) (LC k : Nat) (f : Addr) (den : List D → Rt) : Prop where
  run : ∀ (c : Ctx) (A : Around) (outer : List Env) (s : Shared) (H : Hp) (us : List Value) (vs : List V) (Q : VK) (E : XK), c.K = K → c.mg = mg → c.T = T → Room k A → Env0 P w K mg base A outer s H → CloG P w K mg base c LC outer s H → Vals vs us → spY c den vs H Q E →
    codeAny (model P w) A (.call (.ref f) ⟨us, []⟩) (CR (L2.CX P w) outer P w H s Q E) s

/-! ### a def by its body -/
def outD (fx : Nat → Bool) : Nat → Nat → List D → List D
  | _, 0, _ => []
  | j, k + 1, τ => (if fx j then τ.headD .un else .un) :: outD fx (j + 1) k τ.tail
def fnD (np n : Nat) (fx : Nat → Bool) (body : SDen) (args : List D) : Rt := if args.length = np then match body (args ++ List.replicate (n - args.length) .un) with
  | .nx τ => .ok .non (outD fx 0 args.length τ)
  | .rt d τ => if d.nk then .ok d (outD fx 0 args.length τ) else .bad
  | .ex n d _ => if d.nk then .ex n d else .bad
  | _ => .bad
  else .bad
section
variable {c : Ctx} {F H : Hp}
theorem Slots.append : ∀ {σ ρ : L2.St} {τ υ : List D} {S R : List Addr}, Slots c F H σ τ S → Slots c F H ρ υ R → Slots c F H (σ ++ ρ) (τ ++ υ) (S ++ R)
  | [], ρ, [], υ, S, R, h, r => by
    have z : S = [] := h
    subst z
    exact r
  | x :: σ, ρ, d :: τ, υ, S, R, h, r => by
    obtain ⟨A, B, rfl, r1, h⟩ := h
    exact ⟨A, B ++ R, by simp, r1, Slots.append h r⟩
theorem slots_args : ∀ {ds : List D} {vs : List V} {A : List Addr}, Rels c F H ds vs A → Slots c F H (vs.map some) ds A
  | [], vs, A, h => by obtain ⟨rfl, rfl⟩ := h; rfl
  | d :: ds, vs, A, h => by
    obtain ⟨v, ws, B, C, rfl, rfl, h1, h2⟩ := h
    exact ⟨B, C, rfl, slotR_mk h1, slots_args h2⟩
theorem slots_un : ∀ n : Nat, Slots c F H (List.replicate n none) (List.replicate n .un) []
  | 0 => rfl
  | n + 1 => ⟨[], [], rfl, rfl, slots_un n⟩
theorem Slots.out (fx : Nat → Bool) : ∀ {vs : List V} {σ : L2.St} {τ : List D} {S : List Addr} (j : Nat), Slots c F H σ τ S → S.Nodup → (∀ i, fx (j + i) = true → i < vs.length → σ[i]? = some (vs[i]?)) →
    ∃ B, Slots c F H (vs.map some) (outD fx j vs.length τ) B ∧ B.Nodup ∧ ∀ b ∈ B, b ∈ S
  | [], σ, τ, S, j, h, nd, hf => ⟨[], rfl, List.nodup_nil, fun b z => by cases z⟩
  | v :: vs, [], _ :: _, S, j, h, nd, hf => h.elim
  | v :: vs, x :: σ, [], S, j, h, nd, hf => h.elim
  | v :: vs, [], [], S, j, h, nd, hf => by
    obtain ⟨B', h1, h2, h3⟩ := Slots.out fx (vs := vs) (σ := []) (τ := []) (j + 1) h nd (fun i hi hlt => by
      have q := hf (i + 1) (by rw [← Nat.add_assoc, Nat.add_right_comm]; exact hi) (by simp; omega)
      simp at q)
    have hj : ¬ fx j = true := fun hj => by
      have q := hf 0 hj (by simp)
      simp at q
    refine ⟨B', ⟨[], B', rfl, ?_, h1⟩, h2, h3⟩
    rw [if_neg hj]
    rfl
  | v :: vs, x :: σ, d :: τ, S, j, h, nd, hf => by
    obtain ⟨A, B, rfl, r, h⟩ := h
    have n1 := List.nodup_append.mp nd
    obtain ⟨B', h1, h2, h3⟩ := Slots.out fx (vs := vs) (j + 1) h n1.2.1 (fun i hi hlt => by
      have q := hf (i + 1) (by rw [← Nat.add_assoc, Nat.add_right_comm]; exact hi) (by simp; omega)
      simpa using q)
    by_cases hj : fx j = true
    · have e : x = some v := by
        have q := hf 0 hj (by simp)
        simpa using q
      subst e
      refine ⟨A ++ B', ⟨A, B', rfl, ?_, h1⟩, List.nodup_append.mpr ⟨n1.1, h2, fun x hx y hy => n1.2.2 x hx y (h3 y hy)⟩, fun b hb => ?_⟩
      · rw [if_pos hj]
        exact r
      · rcases List.mem_append.mp hb with z | z
        · exact List.mem_append_left _ z
        · exact List.mem_append_right _ (h3 b z)
    · refine ⟨B', ⟨[], B', rfl, ?_, h1⟩, h2, fun b hb => List.mem_append_right _ (h3 b hb)⟩
      rw [if_neg hj]
      rfl
end
section
variable {P : Program} {w : World} {K : PySem.W.Frag} {mg : Str → Option Value} {base : Heap} {T : List (Addr × Str)} {LC k : Nat}
theorem SA.fin {c : Ctx} {F H : Hp} {σ : L2.St} {τ : List D} {S : List Addr} (sa : SA c F H σ τ S) : Fin' c F H := ⟨sa.ex, sa.nt, sa.tb⟩
/-- a def at f computes den, however its arguments are handed in -/
structure FnA (P : Program) (w : World) (K : PySem.W.Frag) (mg : Str → Option Value) (base : Heap) (T : List (Addr × Str)) (LC k : Nat) (f : Addr) (fd : FuncData) (ps : List Str) (den : List D → Rt) : Prop where
  run : ∀ (c : Ctx) (A : Around) (outer : List Env) (s : Shared) (H : Hp) (args : Args) (us : List Value) (vs : List V) (Q : VK) (E : XK), c.K = K → c.mg = mg → c.T = T → Room k A → Env0 P w K mg base A outer s H → CloG P w K mg base c LC outer s H → BindsTo s fd args (ps.zip us) → Vals vs us → spY c den vs H Q E →
    codeAny (model P w) A (.call (.ref f) args) (CR (L2.CX P w) outer P w H s Q E) s
theorem fn_core {x qual : Str} {st : Stmt} {f : Addr} {fd : FuncData} {N ps : List Str} {fx : Nat → Bool} {body : SDen} (Fn : Fun K x qual st f fd) (S : FnScope N ps (defScope st)) (c0 : Ctx)
    (hbody : ∀ (c : Ctx) (A : Around) (outer : List Env) (s : Shared) (H : Hp) (E : XK), c.G = c0.G → c.K = K → c.mg = mg → c.T = T → c.fx = fx → Room k (A.deeper (envOfC qual (defScope st) s.heap.objs.size f fd.code)) → CloG P w K mg base c LC outer s H →
      Tss (cxOf (L2.CX P w) P w K mg base N qual (defScope st) f fd.code A outer s H E) c (defBody st) body) (A : Around) (outer : List Env) (s : Shared) (H : Hp) (args : Args) (us : List Value) (vs : List V) (Q : VK) (E : XK) (hK : c0.K = K) (hM : c0.mg = mg) (hT : c0.T = T) (hr : Room (k + 1) A) (e0 : Env0 P w K mg base A outer s H) (hG : CloG P w K mg base c0 LC outer s H) (hbb : BindsTo s fd args (ps.zip us)) (r : Vals vs us) (hsp : spY c0 (fnD ps.length N.length fx body) vs H Q E) :
    codeAny (model P w) A (.call (.ref f) args) (CR (L2.CX P w) outer P w H s Q E) s := by
  obtain ⟨oc, od, kV, doc, pm, an, cdv, ct, osl, rfl, lk, hcd⟩ := Fn.ex
  obtain ⟨F, ds, A0, fin, hFB, rds, nd, hm⟩ := hsp
  have hpl : ps.length ≤ N.length := by have := congrArg List.length S.pre; rw [List.length_take] at this; omega
  have lv : vs.length = ps.length := by
    rw [rds.length]
    by_cases z : ds.length = ps.length
    · exact z
    · unfold fnD at hm
      rw [if_neg z] at hm
      exact hm.elim
  refine LamX.run_ofS lk hcd S hr e0 hbb r lv fun hr' => ?_
  -- the surroundings of the body
  obtain ⟨c, hc⟩ : ∃ c : Ctx, c = { c0 with fx := fx, σ0 := L2.start N vs } := ⟨_, rfl⟩
  have hcK : c.K = c0.K := by rw [hc]
  have hcG : c.G = c0.G := by rw [hc]
  have hcT : c.T = c0.T := by rw [hc]
  have hcM : c.mg = c0.mg := by rw [hc]
  have hcB : c.FB = c0.FB := by rw [hc]
  have hcTb : ∀ {H : Hp}, Tb c0 H ↔ Tb c H := fun {H} => by
    rw [hc]
    exact ⟨fun h => ⟨h.tabs, h.code⟩, fun h => ⟨h.tabs, h.code⟩⟩
  have conv : ∀ {F H : Hp} {d : D} {v : V} {A : List Addr}, Rel c F H d v A → Rel c0 F H d v A := fun h => Rel.ctxG hcK.symm hcG.symm h
  have hG' : CloG P w K mg base c LC outer s H := fun g r hr => by
    rw [hcG] at hr
    have q := hG g r hr
    refine ⟨q.fn, q.no, fun A outer s1 H1 fs Q E a1 a2 a5 a3 a4 => q.run A outer s1 H1 fs Q E a1 a2 a5 a3 ?_⟩
    obtain ⟨F, b1, b2, b3⟩ := a4
    refine ⟨F, ⟨b1.ex, b1.nt, hcTb.mpr b1.tb⟩, by rw [← hcB]; exact b2, ?_⟩
    cases r <;> first | exact b3 | skip
    · intro v F' H' B g1 g2 g3 g4
      exact b3 v F' H' B g1 ⟨g2.ex, g2.nt, hcTb.mp g2.tb⟩ (Rel.ctxG hcK hcG g3) g4
    · intro cv dx F' H' g1 g2 g3
      obtain ⟨C, a, v, e1, e2, e3, e4, e5⟩ := g3
      exact b3 cv dx F' H' g1 ⟨g2.ex, g2.nt, hcTb.mp g2.tb⟩ ⟨C, a, v, by rw [hcM]; exact e1, e2, e3, e4, Rel.ctxG hcK hcG e5⟩
  have hB := hbody c A outer s H E hcG (hcK.trans hK) (hcM.trans hM) (hcT.trans hT) (by rw [hc]) hr' hG'
  refine ⟨_, hB.pss (fun cls d _ H => E cls d H) (takes_of rfl rfl rfl rfl), ds ++ List.replicate (N.length - ds.length) .un, F, A0, ⟨fin.ex, fin.nt, by rw [hcB]; exact hFB, hcTb.mp fin.tb, ?_, nd, fun i _ => by rw [hc]⟩, ?_⟩
  · have q := (slots_args rds).append (slots_un (c := c0) (F := F) (H := H) (N.length - ds.length))
    rw [List.append_nil] at q
    have q' := Slots.ctxG (c' := c) hcK hcG q
    unfold L2.start
    rw [rds.length]
    exact q'
  have outs : ∀ {σ' : L2.St} {τ' : List D} {F' H' : Hp} {S' : List Addr}, SA c F' H' σ' τ' S' → ∃ B, Slots c0 F' H' (vs.map some) (outD fx 0 ds.length τ') B ∧ B.Nodup ∧ ∀ b ∈ B, b ∈ S' := fun {σ' τ' F' H' S'} sa => by
    obtain ⟨B, h1, h2, h3⟩ := Slots.out (c := c) fx (vs := vs) 0 sa.sl sa.nd fun i hi hlt => by
      have q := sa.fx i (by rw [hc]; simpa using hi)
      rw [q, hc]
      show (L2.start N vs)[i]? = _
      unfold L2.start
      rw [List.getElem?_append_left (by simpa using hlt), List.getElem?_map, List.getElem?_eq_getElem hlt]
      rfl
    rw [rds.length] at h1
    exact ⟨B, Slots.ctxG hcK.symm hcG.symm h1, h2, h3⟩
  unfold fnD at hm
  rw [if_pos (rds.length.symm.trans lv)] at hm
  cases e1 : body (ds ++ List.replicate (N.length - ds.length) .un) with
  | bad => rw [e1] at hm; exact hm.elim
  | bk _ => rw [e1] at hm; exact hm.elim
  | ct _ => rw [e1] at hm; exact hm.elim
  | nx τ' =>
    rw [e1] at hm
    intro σ' F' H' S' go sa
    obtain ⟨B, h1, h2, h3⟩ := outs sa
    exact hm .non F' H' [] B (Go.less go h3) ⟨sa.ex, sa.nt, hcTb.mpr sa.tb⟩ ⟨rfl, rfl⟩ h1 h2
  | rt d τ' =>
    rw [e1] at hm
    dsimp only at hm
    by_cases hn : d.nk = true
    · rw [if_pos hn] at hm
      intro v σ' F' H' A S' go sa r nd
      obtain ⟨B, h1, h2, h3⟩ := outs sa
      refine hm v F' H' A B (Go.less go fun b hb => ?_) ⟨sa.ex, sa.nt, hcTb.mpr sa.tb⟩ (conv r) h1 (List.nodup_append.mpr ⟨(List.nodup_append.mp nd).1, h2, fun x hx y hy => (List.nodup_append.mp nd).2.2 x hx y (h3 y hy)⟩)
      rcases List.mem_append.mp hb with z | z
      · exact List.mem_append_left _ z
      · exact List.mem_append_right _ (h3 b z)
    · rw [if_neg hn] at hm
      exact hm.elim
  | ex n d τ' =>
    rw [e1] at hm
    dsimp only at hm
    by_cases hn : d.nk = true
    · rw [if_pos hn] at hm
      intro cv dx σ' F' H' S' go sa x
      obtain ⟨C, a, v, e1, e2, e3, e4, e5⟩ := x
      exact hm cv dx F' H' (Go.less go fun b z => by cases z) ⟨sa.ex, sa.nt, hcTb.mpr sa.tb⟩ ⟨C, a, v, by rw [← hcM]; exact e1, e2, e3, e4, conv e5⟩
    · rw [if_neg hn] at hm
      exact hm.elim
/-- THE RULE for a def -/
theorem fnA_of {x qual : Str} {st : Stmt} {f : Addr} {fd : FuncData} {N ps : List Str} {fx : Nat → Bool} {body : SDen} (Fn : Fun K x qual st f fd) (S : FnScope N ps (defScope st))
    (hbody : ∀ (c : Ctx) (A : Around) (outer : List Env) (s : Shared) (H : Hp) (E : XK), c.K = K → c.mg = mg → c.T = T → c.fx = fx → Room k (A.deeper (envOfC qual (defScope st) s.heap.objs.size f fd.code)) → CloG P w K mg base c LC outer s H →
      Tss (cxOf (L2.CX P w) P w K mg base N qual (defScope st) f fd.code A outer s H E) c (defBody st) body) : FnA P w K mg base T LC (k + 1) f fd ps (fnD ps.length N.length fx body) :=
  ⟨fun c0 A outer s H args us vs Q E hK hM hT hr e0 hG hbb r hsp => fn_core Fn S c0 (fun c A outer s H E _ => hbody c A outer s H E) A outer s H args us vs Q E hK hM hT hr e0 hG hbb r hsp⟩
theorem FnA.y {f : Addr} {fd : FuncData} {ps : List Str} {fx : Nat → Bool} {n : Nat} {body : SDen} (h : FnA P w K mg base T LC k f fd ps (fnD ps.length n fx body)) (hb : Binds K fd ps []) : FnY P w K mg base T LC k f (fnD ps.length n fx body) := by
  refine ⟨fun c A outer s H us vs Q E hK hM hT hr e0 hG r hsp => ?_⟩
  have KX : K.In s.heap := e0.mod.kin.keeps fun b o e => (e0.bs b o e).1
  have lv : vs.length = ps.length := by
    obtain ⟨F, ds, A0, fin, hFB, rds, nd, hm⟩ := hsp
    rw [rds.length]
    by_cases z : ds.length = ps.length
    · exact z
    · unfold fnD at hm
      rw [if_neg z] at hm
      exact hm.elim
  have hl : us.length = ps.length := by rw [← r.length]; exact lv
  have hbb := hb s us KX (by rw [List.append_nil]; exact hl)
  rw [List.append_nil] at hbb
  exact h.run c A outer s H ⟨us, []⟩ us vs Q E hK hM hT hr e0 hG hbb r hsp
theorem fnY_of {x qual : Str} {st : Stmt} {f : Addr} {fd : FuncData} {N ps : List Str} {fx : Nat → Bool} {body : SDen} (Fn : Fun K x qual st f fd) (S : FnScope N ps (defScope st)) (hb : Binds K fd ps [])
    (hbody : ∀ (c : Ctx) (A : Around) (outer : List Env) (s : Shared) (H : Hp) (E : XK), c.K = K → c.mg = mg → c.T = T → c.fx = fx → Room k (A.deeper (envOfC qual (defScope st) s.heap.objs.size f fd.code)) → CloG P w K mg base c LC outer s H →
      Tss (cxOf (L2.CX P w) P w K mg base N qual (defScope st) f fd.code A outer s H E) c (defBody st) body) : FnY P w K mg base T LC (k + 1) f (fnD ps.length N.length fx body) := (fnA_of Fn S hbody).y hb
end

/-! ### a call -/
def okA (τ : List D) : List Hdl → Bool
  | [] => true
  | .val _ :: hs => okA τ hs
  | .slot i :: hs => (match τ[i]? with
    | none => false
    | some .un => false
    | some d => d.pl || !(hs.any fun h => match h with
      | .slot j => i == j
      | .val _ => false)) && okA τ hs
def lendD : List Hdl → List D → List D
  | [], τ => τ
  | .val _ :: hs, τ => lendD hs τ
  | .slot i :: hs, τ => match τ[i]? with
    | some d => if d.pl then lendD hs τ else lendD hs (τ.set i .un)
    | none => lendD hs τ
def wbD : List Hdl → List D → List D → List D → List D
  | .slot i :: hs, d :: ds, p :: ps, τ => if d.pl then wbD hs ds ps τ else wbD hs ds ps (τ.set i p)
  | .val _ :: hs, _ :: ds, _ :: ps, τ => wbD hs ds ps τ
  | _, _, _, τ => τ
section
variable {c : Ctx} {F H : Hp} {σ : L2.St}
theorem get_other {τ : List D} {i : Nat} {x : D} {h : Hdl} (hi : ¬ h = .slot i) : h.get (τ.set i x) = h.get τ := by
  cases h with
  | val d => rfl
  | slot j =>
    have ne : i ≠ j := fun z => hi (by rw [z])
    show ((τ.set i x)[j]?).getD .un = (τ[j]?).getD .un
    rw [List.getElem?_set_ne ne]
theorem okA_other {i : Nat} {x : D} : ∀ {hs : List Hdl} {τ : List D}, (∀ h ∈ hs, ¬ h = .slot i) → okA (τ.set i x) hs = okA τ hs
  | [], τ, _ => rfl
  | .val _ :: hs, τ, h => okA_other (hs := hs) fun g hg => h g (List.mem_cons_of_mem _ hg)
  | .slot j :: hs, τ, h => by
    have ne : i ≠ j := fun z => h (.slot j) List.mem_cons_self (by rw [z])
    unfold okA
    rw [List.getElem?_set_ne ne, okA_other (hs := hs) fun g hg => h g (List.mem_cons_of_mem _ hg)]
theorem lend_sound : ∀ {hs : List Hdl} {vs : List V} {τ : List D} {S A : List Addr}, okA τ hs = true → RelHs c F H σ hs vs A → SA c F H σ τ S → (A ++ S).Nodup →
    ∃ A2 S2, Rels c F H (hs.map (Hdl.get τ)) vs A2 ∧ SA c F H σ (lendD hs τ) S2 ∧ (A2 ++ S2).Nodup ∧ ∀ b ∈ A2 ++ S2, b ∈ A ++ S
  | [], vs, τ, S, A, ok, r, sa, nd => by
    obtain ⟨rfl, rfl⟩ := r
    exact ⟨[], S, Rels.nil, sa, sa.nd, fun b hb => hb⟩
  | .val d :: hs, vs, τ, S, A, ok, r, sa, nd => by
    obtain ⟨v, ws, B, C, rfl, rfl, r1, r2⟩ := r
    have n1 := List.nodup_append.mp nd
    have n2 := List.nodup_append.mp n1.1
    obtain ⟨A2, S2, h1, h2, h3, h4⟩ := lend_sound (hs := hs) ok r2 sa (List.nodup_append.mpr ⟨n2.2.1, n1.2.1, fun x hx y hy => n1.2.2 x (List.mem_append_right _ hx) y hy⟩)
    refine ⟨B ++ A2, S2, ⟨v, ws, B, A2, rfl, rfl, r1, h1⟩, h2, ?_, fun b hb => ?_⟩
    · rw [List.append_assoc]
      refine List.nodup_append.mpr ⟨n2.1, h3, fun x hx y hy z => ?_⟩
      subst z
      rcases List.mem_append.mp (h4 x hy) with z | z
      · exact n2.2.2 x hx x z rfl
      · exact n1.2.2 x (List.mem_append_left _ hx) x z rfl
    · rw [List.append_assoc] at hb ⊢
      rcases List.mem_append.mp hb with z | z
      · exact List.mem_append_left _ z
      · exact List.mem_append_right _ (h4 b z)
  | .slot i :: hs, vs, τ, S, A, ok, r, sa, nd => by
    obtain ⟨v, ws, B, C, rfl, rfl, r1, r2⟩ := r
    obtain ⟨e1, rfl⟩ := r1
    rw [List.nil_append] at nd ⊢
    unfold okA at ok
    rw [Bool.and_eq_true] at ok
    obtain ⟨ok1, ok2⟩ := ok
    cases hi : τ[i]? with
    | none => rw [hi] at ok1; cases ok1
    | some d =>
      rw [hi] at ok1
      have hn : d ≠ .un := fun z => by subst z; cases ok1
      have ok1 : (d.pl || !(hs.any fun h => match h with
        | .slot j => i == j
        | .val _ => false)) = true := by cases d <;> first | exact ok1 | exact (hn rfl).elim
      have eg : Hdl.get τ (.slot i) = d := by
        show (τ[i]?).getD .un = d
        rw [hi]
        rfl
      unfold lendD
      rw [hi]
      dsimp only
      by_cases hp : d.pl = true
      · rw [if_pos hp]
        obtain ⟨A2, S2, h1, h2, h3, h4⟩ := lend_sound (hs := hs) ok2 r2 sa nd
        obtain ⟨x, A0, B1, B2, e2, _, rr, _⟩ := Slots.at sa.sl hi
        rw [e1] at e2
        cases e2
        rcases slotR_of rr with ⟨z, _⟩ | ⟨v', z, r'⟩
        · exact (hn z).elim
        · cases z
          have z := r'.pl_nil hp
          subst z
          refine ⟨A2, S2, ⟨v, ws, [], A2, rfl, rfl, ?_, h1⟩, h2, h3, h4⟩
          rw [eg]
          exact r'
      · rw [if_neg hp]
        have hany : (hs.any fun h => match h with
          | .slot j => i == j
          | .val _ => false) = false := by
          cases hq : d.pl with
          | true => exact (hp hq).elim
          | false => rw [hq] at ok1; simpa using ok1
        have nosl : ∀ h ∈ hs, ¬ h = .slot i := fun h hh z => by
          subst z
          have q := List.any_eq_false.mp hany _ hh
          simp at q
        obtain ⟨v', A0, S1, e2, rr, sa1, nd1, hm1⟩ := sa.take hi hn
        rw [e1] at e2
        cases e2
        have ndC : (C ++ S1).Nodup := List.nodup_append.mpr ⟨(List.nodup_append.mp nd).1, sa1.nd, fun x hx y hy => (List.nodup_append.mp nd).2.2 x hx y ((hm1 y).mp (List.mem_append_right _ hy))⟩
        obtain ⟨A2, S2, h1, h2, h3, h4⟩ := lend_sound (hs := hs) (τ := τ.set i .un) (by rw [okA_other nosl]; exact ok2) r2 sa1 ndC
        have em : hs.map (Hdl.get (τ.set i .un)) = hs.map (Hdl.get τ) := List.map_congr_left fun h hh => get_other (nosl h hh)
        rw [em] at h1
        refine ⟨A0 ++ A2, S2, ⟨v, ws, A0, A2, rfl, rfl, ?_, h1⟩, h2, ?_, fun b hb => ?_⟩
        · rw [eg]
          exact rr
        · rw [List.append_assoc]
          refine List.nodup_append.mpr ⟨(List.nodup_append.mp nd1).1, h3, fun x hx y hy z => ?_⟩
          subst z
          rcases List.mem_append.mp (h4 x hy) with z | z
          · exact (List.nodup_append.mp nd).2.2 x z x ((hm1 x).mp (List.mem_append_left _ hx)) rfl
          · exact (List.nodup_append.mp nd1).2.2 x hx x z rfl
        · rw [List.append_assoc] at hb
          rcases List.mem_append.mp hb with z | z
          · exact List.mem_append_right _ ((hm1 b).mp (List.mem_append_left _ z))
          · rcases List.mem_append.mp (h4 b z) with z | z
            · exact List.mem_append_left _ z
            · exact List.mem_append_right _ ((hm1 b).mp (List.mem_append_right _ z))
/-- a slot gets what is in hand; its value stays -/
theorem SA.reput {τ : List D} {S A : List Addr} (sa : SA c F H σ τ S) {i : Nat} {d : D} {x : Option V} (r : SlotR c F H x d A) (nd : (A ++ S).Nodup) (hx : σ[i]? = some x) : ∃ S', SA c F H σ (τ.set i d) S' ∧ ∀ b ∈ S', b ∈ A ++ S := by
  cases hi : τ[i]? with
  | none =>
    have l1 := sa.sl.length
    have l2 := List.getElem?_eq_none_iff.mp hi
    have := (List.getElem?_eq_some_iff.mp hx).1
    omega
  | some d0 =>
    obtain ⟨y, A0, B1, B2, e1, rfl, r1, k⟩ := Slots.at sa.sl hi
    have n1 := List.nodup_append.mp nd
    have n2 := List.nodup_append.mp n1.2.1
    have n3 := List.nodup_append.mp n2.2.1
    have q := k F H x d A (fun _ _ h => h) (fun b hb => ⟨rfl, (sa.owned b (by
      rcases List.mem_append.mp hb with y | y
      · exact List.mem_append_left _ y
      · exact List.mem_append_right _ (List.mem_append_right _ y))).1⟩) r
    rw [set_same hx] at q
    refine ⟨B1 ++ (A ++ B2), ⟨sa.ex, sa.nt, sa.fb, sa.tb, q, ?_, sa.fx⟩, fun b hb => ?_⟩
    · refine List.nodup_append.mpr ⟨n2.1, List.nodup_append.mpr ⟨n1.1, n3.2.1, fun x hx y hy => n1.2.2 x hx y (List.mem_append_right _ (List.mem_append_right _ hy))⟩, fun x hx y hy z => ?_⟩
      subst z
      rcases List.mem_append.mp hy with hy | hy
      · exact n1.2.2 x hy x (List.mem_append_left _ hx) rfl
      · exact n2.2.2 x hx x (List.mem_append_right _ hy) rfl
    · rcases List.mem_append.mp hb with y | y
      · exact List.mem_append_right _ (List.mem_append_left _ y)
      · rcases List.mem_append.mp y with y | y
        · exact List.mem_append_left _ y
        · exact List.mem_append_right _ (List.mem_append_right _ (List.mem_append_right _ y))
theorem wb_sound : ∀ {hs : List Hdl} {vs : List V} {ds ps : List D} {τ : List D} {S B A : List Addr} {F0 H0 : Hp}, RelHs c F0 H0 σ hs vs A → SA c F H σ τ S → Slots c F H (vs.map some) ps B → (B ++ S).Nodup →
    ∃ S2, SA c F H σ (wbD hs ds ps τ) S2 ∧ ∀ b ∈ S2, b ∈ B ++ S
  | [], vs, ds, ps, τ, S, B, A, F0, H0, r, sa, sp, nd => ⟨S, by unfold wbD; exact sa, fun b hb => List.mem_append_right _ hb⟩
  | .val d :: hs, vs, [], ps, τ, S, B, A, F0, H0, r, sa, sp, nd => ⟨S, by unfold wbD; exact sa, fun b hb => List.mem_append_right _ hb⟩
  | .slot d :: hs, vs, [], ps, τ, S, B, A, F0, H0, r, sa, sp, nd => ⟨S, by unfold wbD; exact sa, fun b hb => List.mem_append_right _ hb⟩
  | .val d :: hs, vs, _ :: ds, [], τ, S, B, A, F0, H0, r, sa, sp, nd => ⟨S, by unfold wbD; exact sa, fun b hb => List.mem_append_right _ hb⟩
  | .slot d :: hs, vs, _ :: ds, [], τ, S, B, A, F0, H0, r, sa, sp, nd => ⟨S, by unfold wbD; exact sa, fun b hb => List.mem_append_right _ hb⟩
  | .val d :: hs, vs, d0 :: ds, p :: ps, τ, S, B, A, F0, H0, r, sa, sp, nd => by
    obtain ⟨v, ws, B0, C, rfl, rfl, r1, r2⟩ := r
    obtain ⟨Bp, B', rfl, q1, q2⟩ := sp
    have n1 := List.nodup_append.mp nd
    have n2 := List.nodup_append.mp n1.1
    obtain ⟨S2, h1, h2⟩ := wb_sound (hs := hs) (ds := ds) (ps := ps) r2 sa q2 (List.nodup_append.mpr ⟨n2.2.1, n1.2.1, fun x hx y hy => n1.2.2 x (List.mem_append_right _ hx) y hy⟩)
    refine ⟨S2, h1, fun b hb => ?_⟩
    rcases List.mem_append.mp (h2 b hb) with z | z
    · exact List.mem_append_left _ (List.mem_append_right _ z)
    · exact List.mem_append_right _ z
  | .slot i :: hs, vs, d0 :: ds, p :: ps, τ, S, B, A, F0, H0, r, sa, sp, nd => by
    obtain ⟨v, ws, B0, C, rfl, rfl, r1, r2⟩ := r
    obtain ⟨Bp, B', rfl, q1, q2⟩ := sp
    obtain ⟨e1, rfl⟩ := r1
    have n1 := List.nodup_append.mp nd
    have n2 := List.nodup_append.mp n1.1
    have nB : (B' ++ S).Nodup := List.nodup_append.mpr ⟨n2.2.1, n1.2.1, fun x hx y hy => n1.2.2 x (List.mem_append_right _ hx) y hy⟩
    unfold wbD
    by_cases hp : d0.pl = true
    · rw [if_pos hp]
      obtain ⟨S2, h1, h2⟩ := wb_sound (hs := hs) (ds := ds) (ps := ps) r2 sa q2 nB
      refine ⟨S2, h1, fun b hb => ?_⟩
      rcases List.mem_append.mp (h2 b hb) with z | z
      · exact List.mem_append_left _ (List.mem_append_right _ z)
      · exact List.mem_append_right _ z
    · rw [if_neg hp]
      obtain ⟨S1, s1, m1⟩ := sa.reput q1 (List.nodup_append.mpr ⟨n2.1, n1.2.1, fun x hx y hy => n1.2.2 x (List.mem_append_left _ hx) y hy⟩) e1
      obtain ⟨S2, h1, h2⟩ := wb_sound (hs := hs) (ds := ds) (ps := ps) r2 s1 q2 (List.nodup_append.mpr ⟨n2.2.1, s1.nd, fun x hx y hy z => by
        subst z
        rcases List.mem_append.mp (m1 x hy) with z | z
        · exact n2.2.2 x z x hx rfl
        · exact n1.2.2 x (List.mem_append_right _ hx) x z rfl⟩)
      refine ⟨S2, h1, fun b hb => ?_⟩
      rcases List.mem_append.mp (h2 b hb) with z | z
      · exact List.mem_append_left _ (List.mem_append_right _ z)
      · rcases List.mem_append.mp (m1 b z) with z | z
        · exact List.mem_append_left _ (List.mem_append_left _ z)
        · exact List.mem_append_right _ z
end
def callD (den : List D → Rt) (g : Den (List Hdl)) : Den Hdl := fun τ => (g τ).bind fun hs τ1 => if okA τ1 hs = true then (match den (hs.map (Hdl.get τ1)) with
  | .ok d ps => .ok (.val d) (wbD hs (hs.map (Hdl.get τ1)) ps (lendD hs τ1))
  | .ex n d => .ex n d (lendD hs τ1)
  | .bad => .bad) else .bad
/-- the closures in sight of X's state -/
def CloAt (X : Cx) (c : Ctx) (LC : Nat) : Prop := (c.G = fun _ => none) ∨ (X.ex = [] ∧ CloG X.prog X.w X.K X.mg X.base c LC X.outer X.s_0 X.H_0)
section
variable {X : Cx} {c : Ctx} {e : Expr} {es : List Expr} {g : Den (List Hdl)} {LC k : Nat}
theorem CloAt.at {pins : List (Addr × Obj)} {σ : L2.St} {H : Hp} {s : Shared} (h : CloAt X c LC) (I : Inv X pins σ H s) : CloG X.prog X.w X.K X.mg X.base c LC X.stack s H := by
  rcases h with h | ⟨h1, h2⟩
  · intro f r e
    rw [h] at e
    cases e
  · have un : Un X.fs X.ex X.H_0 H X.s_0.heap s.heap := I.base
    rw [h1] at un
    intro f r e
    obtain ⟨a1, a2, a3⟩ := h2 f r e
    obtain ⟨oc, od, fd, sl, ho⟩ := a1
    obtain ⟨sl', h3⟩ := un.any ho a2 (by simp)
    refine ⟨⟨_, _, _, _, h3⟩, un.free f _ ho a2 (by simp), fun A outer s2 H2 fs' Q E b1 b2 b5 b3 b4 => a3 A outer s2 H2 (X.fs ++ fs') Q E b1 b2 (fun b o hb hf => ?_) (Y.Un.two un b3) b4⟩
    rcases List.mem_append.mp hf with z | z
    · exact z
    · obtain ⟨o', ho'⟩ := un.there b o hb (by simp)
      rcases List.mem_cons.mp (I.stkSub b (b5 b o' ho' z)) with y | y
      · have := I.ok.above
        rw [← y] at this
        exact absurd (Nat.lt_of_lt_of_le (Heap.lt_size hb) this) (Nat.lt_irrefl _)
      · exact y
/-- f(..) by values, from a running body -/
theorem run_Y {f : Addr} {den : List D → Rt} {pins : List (Addr × Obj)} {σ : L2.St} {H : Hp} {s : Shared} {Q : VK} {W : WX} {us : List Value} {vs : List V} (G : FnY X.prog X.w X.K X.mg X.base c.T LC k f den) (hK : c.K = X.K) (hM : c.mg = X.mg) (hr : Room k X.A) (hG : CloAt X c LC) (tk : Takes X W)
    (I : Inv X pins σ H s) (r : Vals vs us) (h : spY c den vs H Q (fun cv dx H' => W cv dx σ H')) : wpAny (model X.prog X.w) X.A (call (.ref f) us) (EP X pins σ Q) X.xe s := by
  refine wpAny_call (codeAny_mono (G.run c X.A X.stack s H us vs Q (fun cv dx H' => W cv dx σ H') hK hM rfl hr I.env0 (hG.at I) r h) fun r s' hq => ?_)
  cases r with
  | error e => exact passAt tk σ pins H s e s' I hq
  | ok fl =>
    cases fl with
    | ret u => exact I.after hq
    | next => exact False.elim hq
    | brk => exact False.elim hq
    | cont => exact False.elim hq
theorem call_sound {den : List D → Rt} {W : WX} {σ : L2.St} {H : Hp} {Q : VK} (h : tE c (callD den g) W σ H Q) : tA c g W σ H fun vs H1 => spY c den vs H1 Q (fun cv dx H' => W cv dx σ H') := by
  obtain ⟨τ, F, S, sa, h⟩ := h
  refine ⟨τ, F, S, sa, ?_⟩
  unfold callD at h
  cases e1 : g τ with
  | bad => rw [e1] at h; exact h
  | ex n d τ' => rw [e1] at h; exact h
  | ok hs τ1 =>
    rw [e1] at h
    intro vs F1 H1 A1 S1 g1 sa1 r1 nd1
    dsimp only [Rz.bind] at h
    by_cases ok : okA τ1 hs = true
    · rw [if_pos ok] at h
      obtain ⟨A2, S2, q1, sa2, nd2, hm2⟩ := lend_sound ok r1 sa1 nd1
      have n2 := List.nodup_append.mp nd2
      refine ⟨F1, _, A2, ⟨sa1.ex, sa1.nt, sa1.tb⟩, sa1.fb, q1, n2.1, ?_⟩
      -- what is beside
      have beside : ∀ {F' H' : Hp} {B : List Addr}, Go F1 H1 A2 F' H' B → Fin' c F' H' → SA c F' H' σ (lendD hs τ1) S2 ∧ (∀ x ∈ S2, x ∉ B) := fun {F' H' B} go fin => by
        have k := Go.hand go (fun x hx => sa2.owned x hx) (by
          have := List.nodup_append.mpr ⟨n2.2.1, n2.1, fun x hx y hy z => n2.2.2 y hy x hx z.symm⟩
          exact this)
        exact ⟨⟨fin.ex, fin.nt, fun b o z => go.f b o (sa2.fb b o z), fin.tb, Slots.mono go.f sa2.sl fun x hx => ⟨(k x hx).1, (k x hx).2.1⟩, sa2.nd, sa2.fx⟩, fun x hx => (k x hx).2.2⟩
      have gA : ∀ {F' H' : Hp} {B R : List Addr}, Go F1 H1 A2 F' H' B → (∀ b ∈ R, b ∈ B ++ S2) → Go F1 H1 (A1 ++ S1) F' H' R := fun {F' H' B R} go sub => by
        refine ⟨go.f, fun b o e1 e2 hx => go.h b o e1 e2 fun z => hx (hm2 b (List.mem_append_left _ z)), fun b hb => ?_, fun b o e1 => ?_⟩
        · rcases List.mem_append.mp (sub b hb) with z | z
          · rcases go.s b z with z | z
            · exact .inl (hm2 b (List.mem_append_left _ z))
            · exact .inr z
          · exact .inl (hm2 b (List.mem_append_right _ z))
        · rcases go.n b o e1 with z | z | z
          · exact .inl z
          · exact .inr (.inl (hm2 b (List.mem_append_left _ z)))
          · exact .inr (.inr z)
      cases e2 : den (hs.map (Hdl.get τ1)) with
      | bad => rw [e2] at h; exact h.elim
      | ex n d =>
        rw [e2] at h
        intro cv dx F' H' go fin x
        obtain ⟨sa3, _⟩ := beside go fin
        exact (show Post c (fun F H => RelH c F H σ) W F H σ S Q (.ex n d (lendD hs τ1)) from h) cv dx F' H' S2 (Go.trans0 g1 (gA go fun b hb => List.mem_append_right _ hb)) sa3 x
      | ok d ps =>
        rw [e2] at h
        intro v F' H' B B' go fin rr sl nd
        obtain ⟨sa3, dis⟩ := beside go fin
        have nb := List.nodup_append.mp nd
        obtain ⟨S4, sa4, hm4⟩ := wb_sound (ds := hs.map (Hdl.get τ1)) r1 sa3 sl (List.nodup_append.mpr ⟨nb.2.1, n2.2.1, fun x hx y hy z => by
          subst z
          exact dis x hy (List.mem_append_right _ hx)⟩)
        refine (show Post c (fun F H => RelH c F H σ) W F H σ S Q (.ok (.val d) (wbD hs (hs.map (Hdl.get τ1)) ps (lendD hs τ1))) from h) v F' H' B S4 (Go.trans0 g1 (gA go fun b hb => ?_)) sa4 rr (List.nodup_append.mpr ⟨nb.1, sa4.nd, fun x hx y hy z => ?_⟩)
        · rcases List.mem_append.mp hb with z | z
          · exact List.mem_append_left _ (List.mem_append_left _ z)
          · rcases List.mem_append.mp (hm4 b z) with z | z
            · exact List.mem_append_left _ (List.mem_append_right _ z)
            · exact List.mem_append_right _ z
        · subst z
          rcases List.mem_append.mp (hm4 x hy) with z | z
          · exact nb.2.2 x hx x z rfl
          · exact dis x z (List.mem_append_left _ hx)
    · rw [if_neg ok] at h
      exact h.elim
theorem t_call {f : Addr} {den : List D → Rt} {x : Str} {p pos : Pos} (G : FnY X.prog X.w X.K X.mg X.base c.T LC k f den) (hK : c.K = X.K) (hM : c.mg = X.mg) (hr : Room k X.A) (hG : CloAt X c LC) (hm : X.mg x = some (.ref f)) (hk : PySem.W.keepIn X.K (.ref f) = true)
    (ha : TrA X c (e :: es) g) (hg : Gl X x := by rfl) (hdb : (x == ("__debug__" : Str)) = false := by decide) (he : starEach (e :: es) X.env = (false, eval e X.env) :: starEach es X.env := by rfl) (hpl : (backTo pos (starEach es X.env)).any (·.1) = false := by rfl) :
    Tr X c (.Call (.Name x p) (e :: es) [] pos) (callD den g) := by
  refine ⟨fun W tk => ⟨fun pins s σ H Q I h => ?_⟩⟩
  refine wpAny_Call_Name_kw (ld_glob I hg hm ?_ hdb)
  refine PySem.W.callWith_K (h₀ := X.base) I.ok.mod.kin hk (thn ((ha.pa W tk).run pos pins s σ H _ I (call_sound h)) fun us s1 ⟨vs, H1, I1, r, q⟩ => ⟨I1.kIn, ?_⟩) he hpl
  exact run_Y G hK hM hr hG tk I1 r q
theorem t_call0 {f : Addr} {den : List D → Rt} {x : Str} {p pos : Pos} (G : FnY X.prog X.w X.K X.mg X.base c.T LC k f den) (hK : c.K = X.K) (hM : c.mg = X.mg) (hr : Room k X.A) (hG : CloAt X c LC) (hm : X.mg x = some (.ref f)) (hk : PySem.W.keepIn X.K (.ref f) = true)
    (hg : Gl X x := by rfl) (hdb : (x == ("__debug__" : Str)) = false := by decide) : Tr X c (.Call (.Name x p) [] [] pos) (callD den anil) := by
  refine ⟨fun W tk => ⟨fun pins s σ H Q I h => ?_⟩⟩
  refine wpAny_Call_Name_kw (ld_glob I hg hm ?_ hdb)
  refine PySem.W.callWith_K0 I.kIn hk ?_
  obtain ⟨τ, F, S, sa, q⟩ := call_sound h
  exact run_Y G hK hM hr hG tk I .nil (q [] F H [] S Go.refl sa ⟨rfl, rfl⟩ sa.nd)
end
end Y
end

section
set_option Elab.async false
set_option linter.all false
set_option maxRecDepth 100000
set_option maxHeartbeats 4000000
/-! Y10: closures: a lambda without parameters, handed to a def, called there. -/
namespace Y
open PySem PySem.Spec PyProof.Rows L2

section
variable {c : Ctx} {F H F1 H1 : Hp} {σ : L2.St} {τ : List D} {S A B : List Addr}
/-- what is beside a call stays -/
theorem SA.beside (sa : SA c F H σ τ S) (go : Go F H A F1 H1 B) (fin : Fin' c F1 H1) (nd : (A ++ S).Nodup) : SA c F1 H1 σ τ S ∧ (∀ x ∈ S, x ∉ B) := by
  have n2 := List.nodup_append.mp nd
  have k := Go.hand go (fun x hx => sa.owned x hx) (List.nodup_append.mpr ⟨n2.2.1, n2.1, fun x hx y hy z => n2.2.2 y hy x hx z.symm⟩)
  exact ⟨⟨fin.ex, fin.nt, fun b o z => go.f b o (sa.fb b o z), fin.tb, Slots.mono go.f sa.sl fun x hx => ⟨(k x hx).1, (k x hx).2.1⟩, sa.nd, sa.fx⟩, fun x hx => (k x hx).2.2⟩
/-- with what is beside -/
theorem Go.wide {R S0 : List Addr} (go : Go F H A F1 H1 B) (h1 : ∀ b ∈ A, b ∈ S0) (h2 : ∀ b ∈ R, b ∈ B ∨ b ∈ S0) : Go F H S0 F1 H1 R :=
  ⟨go.f, fun b o e1 e2 hx => go.h b o e1 e2 fun z => hx (h1 b z), fun b hb => (h2 b hb).elim (fun z => (go.s b z).elim (fun z => .inl (h1 b z)) .inr) .inl,
    fun b o e1 => (go.n b o e1).elim .inl fun z => z.elim (fun z => .inr (.inl (h1 b z))) fun z => .inr (.inr z)⟩
end
section
variable {X : Cx} {c : Ctx} {e : Expr} {es : List Expr} {g : Den (List Hdl)} {LC k : Nat}
/-- f(), f a slot that holds a closure -/
def cloD (i : Nat) : Den Hdl := fun τ => match τ[i]? with
  | some (.tok d) => .ok (.val d) τ
  | some (.tex n d) => .ex n d τ
  | _ => .bad
theorem t_clo {i : Nat} {a : Str} {p1 p2 : Pos} (hr : Room LC X.A) (hG : CloAt X c LC) (hN : X.N[i]? = some a := by rfl) (hv : Vis X.env.scope a := by first | exact Or.inl rfl | exact Or.inr (Or.inl rfl) | exact Or.inr (Or.inr rfl)) (hd : (a == ("__debug__" : Str)) = false := by decide)
    (hcd : (a == ("__classdict__" : Str)) = false := by decide) : Tr X c (.Call (.Name a p1) [] [] p2) (cloD i) := by
  refine ⟨fun W tk => ⟨fun pins s σ H Q I h => ?_⟩⟩
  obtain ⟨τ, F, S, sa, h⟩ := h
  unfold cloD at h
  obtain ⟨d0, e0⟩ : ∃ d0, τ[i]? = some d0 := by
    cases e0 : τ[i]? with
    | none => rw [e0] at h; exact h.elim
    | some d => exact ⟨d, rfl⟩
  rw [e0] at h
  obtain ⟨x, A, B1, B2, e1, _, rr, _⟩ := Slots.at sa.sl e0
  have hs : ∃ f, σ[i]? = some (some (.ref f)) ∧ c.G f = some d0 := by
    rcases slotR_of rr with ⟨rfl, _⟩ | ⟨v, rfl, r⟩
    · exact h.elim
    · cases d0 <;> first | exact h.elim | skip
      · obtain ⟨f, rfl, hf, _⟩ := r
        exact ⟨f, e1, hf⟩
      · obtain ⟨f, rfl, hf, _⟩ := r
        exact ⟨f, e1, hf⟩
  obtain ⟨f, hs, hf⟩ := hs
  have C := hG.at I f d0 hf
  refine wpAny_Call_Name_kw (thn ((pe_var (pos := p1) hN hv hd hcd).run pins s σ H (fun v H1 => v = .ref f ∧ H1 = H) I ⟨.ref f, hs, rfl, rfl⟩) fun u s1 ⟨v, H1, I1, r1, q1⟩ => ?_)
  obtain ⟨ev, eH⟩ := q1
  subst ev
  rw [eH] at I1
  obtain rfl : u = Value.ref f := r1
  have C1 := hG.at I1 f d0 hf
  refine PySem.W.callWith_F0 C1.fn ?_
  have sp : spZ c d0 H Q (fun cv dx H' => W cv dx σ H') := by
    refine ⟨F, sa.fin, sa.fb, ?_⟩
    cases d0 <;> first | exact h.elim | skip
    · intro v F' H' B go fin r nd
      obtain ⟨sa', dis⟩ := sa.beside go fin sa.nd
      exact (show Post c (fun F H => RelH c F H σ) W F H σ S Q (.ok (.val _) τ) from h) v F' H' B S (go.wide (fun b z => by cases z) fun b hb => List.mem_append.mp hb) sa' r (List.nodup_append.mpr ⟨nd, sa'.nd, fun x hx y hy z => dis y hy (z ▸ hx)⟩)
    · intro cv dx F' H' go fin x
      obtain ⟨sa', dis⟩ := sa.beside go fin sa.nd
      exact (show Post c (fun F H => RelH c F H σ) W F H σ S Q (.ex _ _ τ) from h) cv dx F' H' S (go.wide (fun b z => by cases z) fun b hb => .inr hb) sa' x
  refine wpAny_call (codeAny_mono (C1.run X.A X.stack s1 H [] Q (fun cv dx H' => W cv dx σ H') hr I1.env0 (fun b o _ z => by cases z) Un.refl sp) fun r s' hq => ?_)
  cases r with
  | error e => exact passAt tk σ pins H s1 e s' I1 hq
  | ok fl =>
    cases fl with
    | ret u => exact I1.after hq
    | next => exact False.elim hq
    | brk => exact False.elim hq
    | cont => exact False.elim hq

/-! ### a lambda handed to a def -/
def frzAll : List Nat → List D → Option (List D)
  | [], τ => some τ
  | i :: cap, τ => match τ[i]? with
    | none => none
    | some .un => none
    | some d => if d.nk then frzAll cap (τ.set i d.frz) else none
def onlyD : List Nat → Nat → List D → List D
  | _, _, [] => []
  | cap, j, d :: τ => (if cap.contains j && d.pl && d.nk then d else .un) :: onlyD cap (j + 1) τ
def cloOf (fb : Den Hdl) (cap : List Nat) (τ : List D) : Option D := match fb (onlyD cap 0 τ) with
  | .ok (.val d) _ => if d.nk then some (.tok d) else none
  | .ex n d _ => if d.nk then some (.tex n d) else none
  | _ => none
def nkU : D → Bool
  | .un => true
  | d => d.nk
def lamD (den : List D → Rt) (fb : Den Hdl) (cap : List Nat) (g : Den (List Hdl)) : Den Hdl := fun τ => match frzAll cap τ with
  | none => .bad
  | some τ1 => (match cloOf fb cap τ1 with
    | none => .bad
    | some r => (g τ1).bind fun hs τ2 => if okA τ2 hs && D.nks (hs.map (Hdl.get τ2)) then (match den (r :: hs.map (Hdl.get τ2)) with
      | .ok d (_ :: ps) => if d.nk && ps.all nkU then .ok (.val d) (wbD hs (hs.map (Hdl.get τ2)) ps (lendD hs τ2)) else .bad
      | .ex n d => if d.nk then .ex n d (lendD hs τ2) else .bad
      | _ => .bad) else .bad)
end
section
variable {c : Ctx} {F H F1 H1 : Hp} {σ : L2.St} {τ τ1 : List D} {S A B : List Addr}
theorem SA.frzAll : ∀ {cap : List Nat} {τ τ1 : List D} {F : Hp} {S : List Addr}, SA c F H σ τ S → frzAll cap τ = some τ1 → ∃ F' S', Go F H S F' H S' ∧ SA c F' H σ τ1 S'
  | [], τ, τ1, F, S, sa, e => by
    cases e
    exact ⟨F, S, Go.refl, sa⟩
  | i :: cap, τ, τ1, F, S, sa, e => by
    unfold Y.frzAll at e
    cases hi : τ[i]? with
    | none => rw [hi] at e; cases e
    | some d =>
      rw [hi] at e
      have hn : d ≠ .un := fun z => by subst z; cases e
      have e : (if d.nk then Y.frzAll cap (τ.set i d.frz) else none) = some τ1 := by cases d <;> first | exact e | exact (hn rfl).elim
      split at e <;> first | (cases e; done) | skip
      obtain ⟨F1, S1, v, g1, sa1, _, _⟩ := sa.freeze hi hn
      obtain ⟨F2, S2, g2, sa2⟩ := SA.frzAll sa1 e
      exact ⟨F2, S2, Go.trans0 g1 g2, sa2⟩
theorem slots_only {c' : Ctx} (hK : c'.K = c.K) (e : ∀ b o, F b = some o → F1 b = some o) (cap : List Nat) : ∀ {σ : L2.St} {τ : List D} {S : List Addr} (j : Nat), Slots c F H σ τ S → Slots c' F1 H1 σ (onlyD cap j τ) []
  | [], [], S, j, h => rfl
  | x :: σ, d :: τ, S, j, h => by
    obtain ⟨A, B, rfl, r, h⟩ := h
    refine ⟨[], [], rfl, ?_, slots_only hK e cap (j + 1) h⟩
    by_cases hq : (cap.contains j && d.pl && d.nk) = true
    · rw [if_pos hq]
      rw [Bool.and_eq_true, Bool.and_eq_true] at hq
      rcases slotR_of r with ⟨rfl, _⟩ | ⟨v, rfl, r'⟩
      · cases hq.1.2
      · exact slotR_mk (Rel.ctx hK (r'.any hq.1.2 e) hq.2)
    · rw [if_neg hq]
      rfl
theorem slotR_ctxN {c' : Ctx} (hK : c'.K = c.K) {x : Option V} {d : D} (h : SlotR c F H x d A) (n : nkU d = true) : SlotR c' F H x d A := by
  rcases slotR_of h with ⟨rfl, rfl⟩ | ⟨v, rfl, r⟩
  · rfl
  · refine slotR_mk (Rel.ctx hK r ?_)
    cases d <;> first | exact n | exact r.elim
theorem Slots.ctxN {c' : Ctx} (hK : c'.K = c.K) : ∀ {σ : L2.St} {τ : List D} {S : List Addr}, Slots c F H σ τ S → τ.all nkU = true → Slots c' F H σ τ S
  | [], [], S, h, n => h
  | x :: σ, d :: τ, S, h, n => by
    obtain ⟨A, B, rfl, r, h⟩ := h
    rw [List.all_cons, Bool.and_eq_true] at n
    exact ⟨A, B, rfl, slotR_ctxN hK r n.1, Slots.ctxN hK h n.2⟩
theorem ExP.ctx {c' : Ctx} (hK : c'.K = c.K) (hM : c'.mg = c.mg) {n : Str} {d : D} {cv : Value} {dx : Option Addr} (h : ExP c F H n d cv dx) (k : d.nk = true) : ExP c' F H n d cv dx := by
  obtain ⟨C, a, v, e1, e2, e3, e4, e5⟩ := h
  exact ⟨C, a, v, by rw [hM]; exact e1, e2, e3, e4, Rel.ctx hK e5 k⟩
theorem Un.narrow {fs f0 : List Addr} {H H1 : Hp} {h h1 : Heap} (u : Un fs [] H H1 h h1) (k : ∀ b o, h.get? b = some o → b ∈ fs → b ∈ f0) : Un f0 [] H H1 h h1 :=
  ⟨fun b o e n hb hx => u.keep b o e n (fun z => hb (k b o e z)) hx, fun b o e n _ hx => u.any e n hx, u.free, u.there, u.tups, u.frzs, u.tbls⟩
end
section
variable {X : Cx} {c : Ctx} {es : List Expr} {g : Den (List Hdl)} {LC k : Nat}
/-- the closure that stands behind the making of a lambda -/
theorem clo_made {params : Arguments} {body : Expr} {scope : Scope} {fb : Den Hdl} {cap : List Nat} {pins : List (Addr × Obj)} {σ : L2.St} {H1 F1 : Hp} {s' : Shared} {τ1 : List D} {S1 : List Addr} {f c' : Addr} {pm ctv : Value} {r : D} {cc : Ctx} {LB : Nat}
    (hK : c.K = X.K) (hM : c.mg = X.mg) (L : LamX.LamS X.env.scope scope)
    (hbind : ∀ (q : Str) (cl : List (Str × Addr)) (pm cv ctv : Value), bindArgs (PySem.W.kla_fn "<lambda>" q params body scope cl pm cv ctv) ⟨[], []⟩ = pure [])
    (hbody : ∀ (cl : Ctx) (A : Around) (outer : List Env) (s : Shared) (H : Hp) (E : XK) (f c' : Addr), cl.K = X.K → cl.mg = X.mg → cl.T = c.T → cl.G = (fun _ => none) → Room LB (A.deeper (LamX.lamEnv X scope s.heap.objs.size f c')) → Tr (LamX.lamCx X A outer s H E scope f c') cl body fb)
    (I : Inv X pins σ H1 s') {Hz : Hp} (sl0 : Slots c F1 Hz σ τ1 S1) (hr : cloOf fb cap τ1 = some r)
    (hf : s'.heap.get? f = some (PySem.W.kla_obj "<lambda>" (X.env.qual ++ "<lambda>") params body scope (cloFrom X.env.cells scope.names []) pm c' ctv)) (hfn : H1 f = none) (hco : H1 c' = some (LamX.CodeO c' (X.env.qual ++ "<lambda>")))
    (hc : cc = { c with G := fun a => if a = f then some r else none, FB := F1, CB := (c', X.env.qual ++ "<lambda>") :: c.CB }) : CloG X.prog X.w X.K X.mg X.base cc (LB + 1) X.stack s' H1 := by
  intro f' r' ef
  have ef : (if f' = f then some r else none) = some r' := by rw [hc] at ef; exact ef
  by_cases hff : f' = f
  · rw [if_pos hff] at ef
    cases ef
    subst hff
    refine ⟨⟨_, _, _, _, hf⟩, hfn, fun A outer s1 HZ fs Q E hro e0 hfs un sp => ?_⟩
    have un' : Un (frs X.stack) [] H1 HZ s'.heap s1.heap := Un.narrow un hfs
    obtain ⟨F, fin, hFB, hm⟩ := sp
    have of1 : ∃ sl, s1.heap.get? f' = some { PySem.W.kla_obj "<lambda>" (X.env.qual ++ "<lambda>") params body scope (cloFrom X.env.cells scope.names []) pm c' ctv with slots := sl } := un'.any hf hfn (by simp)
    obtain ⟨sl, of1⟩ := of1
    have hcod : HZ c' = some (LamX.CodeO c' (X.env.qual ++ "<lambda>")) := fin.tb.code (c', X.env.qual ++ "<lambda>") (by rw [hc]; exact List.mem_cons_self)
    obtain ⟨⟨oc, vs, t, hoc, hdc, hvc⟩, _, _⟩ := e0.hok c' _ hcod
    have lim : s1.heap.NoLimit := e0.mod.nolimit.keeps fun b o e => (e0.bs b o e).1
    refine PySem.W.kla_callFunE hro.depth of1 rfl L.co L.gen rfl ⟨c', oc, vs, t, rfl, hoc, hdc, hvc⟩ ?_
    rw [hbind]
    refine wpAny_pure (wpAny_newFunctionEnv (fun y hy => (L.own y hy).2) (fun y hy => absurd hy (by simp)) (fun h₁ hns hsb => ⟨lim.fresh _ hsb, ?_⟩) L.kind)
    show codeAny _ _ (.expr body (LamX.lamEnv X scope s1.heap.objs.size f' c')) _ _
    have kp : ∀ b o, s1.heap.get? b = some o → h₁.get? b = some o := fun b o e => hsb.extBut b o (Nat.ne_of_lt (Heap.lt_size e)) (Heap.get?_push_of_some _ e)
    have J : Inv (LamX.lamCx X A outer s1 HZ E scope f' c') [] σ HZ { s1 with heap := h₁, toks := s1.toks + ([] : List (Str × Value)).length } := LamX.lam_start2 I L e0 hro.hd un' hns kp
    obtain ⟨cl, hcl⟩ : ∃ cl : Ctx, cl = { cc with G := (fun _ => none), fx := (fun _ => false) } := ⟨_, rfl⟩
    have k1 : cl.K = X.K := by rw [hcl, hc]; exact hK
    have k2 : cl.mg = X.mg := by rw [hcl, hc]; exact hM
    have k3 : cl.T = c.T := by rw [hcl, hc]
    have k4 : cl.G = (fun _ => none) := by rw [hcl]
    have kT : ∀ {H : Hp}, Tb cc H → Tb cl H := fun {H} h => by rw [hcl]; exact ⟨h.tabs, h.code⟩
    have kT' : ∀ {H : Hp}, Tb cl H → Tb cc H := fun {H} h => by rw [hcl] at h; exact ⟨h.tabs, h.code⟩
    have hFB' : ∀ b o, F1 b = some o → F b = some o := fun b o e => hFB b o (by rw [hc]; exact e)
    have saL : SA cl F HZ σ (onlyD cap 0 τ1) [] := ⟨fin.ex, fin.nt, fun b o e => by
        rw [hcl, hc] at e
        exact hFB' b o e, kT fin.tb, slots_only (c := c) (by rw [k1, hK]) hFB' cap 0 sl0, List.nodup_nil, fun i hi => by
        rw [hcl] at hi
        cases hi⟩
    have B := hbody cl A outer s1 HZ E f' c' k1 k2 k3 k4 (hro.deeper _)
    have tE0 : tE cl fb (fun cls d _ H => E cls d H) σ HZ Q := by
      refine ⟨_, F, [], saL, ?_⟩
      unfold cloOf at hr
      cases e1 : fb (onlyD cap 0 τ1) with
      | bad => rw [e1] at hr; cases hr
      | ex n d τ' =>
        rw [e1] at hr
        have hr : (if d.nk then some (D.tex n d) else none) = some r := hr
        split at hr <;> cases hr
        rename_i hn
        intro cv dx F' H' S' go sa' x
        exact hm cv dx F' H' (Go.less go fun b z => by cases z) ⟨sa'.ex, sa'.nt, kT' sa'.tb⟩ (x.ctx (by rw [k1, hc]; exact hK) (by rw [k2, hc]; exact hM) hn)
      | ok h τ' =>
        rw [e1] at hr
        cases h with
        | slot i => cases hr
        | val d =>
          have hr : (if d.nk then some (D.tok d) else none) = some r := hr
          split at hr <;> cases hr
          rename_i hn
          intro v F' H' A' S' go sa' rr nd
          exact hm v F' H' A' (Go.less go fun b z => List.mem_append_left _ z) ⟨sa'.ex, sa'.nt, kT' sa'.tb⟩ (Rel.ctx (by rw [k1, hc]; exact hK) rr hn) (List.nodup_append.mp nd).1
    refine PySem.W.kla_codeExpr (wpAny_mono ((B.pe (fun cls d _ H => E cls d H) (takes_of rfl rfl rfl rfl)).run [] _ σ HZ Q J tE0) (fun v s2 hq => ?_) fun e s2 hq => hq)
    obtain ⟨w', H', J', rv, q⟩ := hq
    exact ⟨w', H', J'.os, J'.bare, J'.base, J'.hok, rv, q⟩
  · rw [if_neg hff] at ef
    cases ef
/-- x(lambda: body, e, ..) -/
theorem t_lam {params : Arguments} {body : Expr} {scope : Scope} {fb : Den Hdl} {cap : List Nat} {den : List D → Rt} {f cb P : Addr} {x : Str} {p lpos pos : Pos} {LB : Nat}
    (G : FnY X.prog X.w X.K X.mg X.base c.T (LB + 1) k f den) (hK : c.K = X.K) (hM : c.mg = X.mg) (hr : Room k X.A) (hm : X.mg x = some (.ref f)) (hk : PySem.W.keepIn X.K (.ref f) = true)
    (TB : LamX.TabB X.base X.mg cb P) (hcode : X.env.code = .ref cb) (hmT : (P, X.env.qual ++ "<lambda>") ∈ c.T) (hu : ∀ p ∈ c.T, p.1 = P → p.2 = X.env.qual ++ "<lambda>") (L : LamX.LamS X.env.scope scope) (hdef : defaultsOf params X.env = ([], []))
    (hbind : ∀ (q : Str) (cl : List (Str × Addr)) (pm cv ctv : Value), bindArgs (PySem.W.kla_fn "<lambda>" q params body scope cl pm cv ctv) ⟨[], []⟩ = pure [])
    (hbody : ∀ (cl : Ctx) (A : Around) (outer : List Env) (s : Shared) (H : Hp) (E : XK) (f c' : Addr), cl.K = X.K → cl.mg = X.mg → cl.T = c.T → cl.G = (fun _ => none) → Room LB (A.deeper (LamX.lamEnv X scope s.heap.objs.size f c')) → Tr (LamX.lamCx X A outer s H E scope f c') cl body fb)
    (ha : TrA X c es g) (hg : Gl X x := by rfl) (hdb : (x == ("__debug__" : Str)) = false := by decide) (he : starEach (.Lambda params body scope lpos :: es) X.env = (false, eval (.Lambda params body scope lpos) X.env) :: starEach es X.env := by rfl)
    (hpl : (backTo pos (starEach es X.env)).any (·.1) = false := by rfl) : Tr X c (.Call (.Name x p) (.Lambda params body scope lpos :: es) [] pos) (lamD den fb cap g) := by
  refine ⟨fun W tk => ⟨fun pins s σ H Q I h => ?_⟩⟩
  obtain ⟨τ, F, S, sa, h⟩ := h
  unfold lamD at h
  cases e1 : frzAll cap τ with
  | none => rw [e1] at h; exact h.elim
  | some τ1 =>
    rw [e1] at h
    obtain ⟨F1, S1, g1, sa1⟩ := sa.frzAll e1
    dsimp only at h
    cases e2 : cloOf fb cap τ1 with
    | none => rw [e2] at h; exact h.elim
    | some r =>
      rw [e2] at h
      dsimp only at h
      refine wpAny_Call_Name_kw (ld_glob I hg hm ?_ hdb)
      refine PySem.W.callWith_K (h₀ := X.base) I.ok.mod.kin hk ?_ he hpl
      rw [he]
      show wpAny _ _ (spliced ((false, eval (.Lambda params body scope lpos) X.env) :: backTo pos (starEach es X.env))) _ _ s
      refine Calls.spliced_cons (LamX.lam_make2 I TB hcode hmT hu sa1.tb.tabs hdef (L.has I.ok) fun f' c' pm' ctv H1 s' I1 eN T1 hf hfn hfr hco => ?_)
      -- the state behind the making
      have go1 : Go F1 H S1 F1 H1 S1 := ⟨fun _ _ h => h, fun b o e ht _ => eN b o e ht, fun b hb => .inl hb, fun b o h => .inl h⟩
      have nF : ∀ b o, F1 b = some o → ∀ ps, o ≠ .tbl ps := fun b o e ps z => by
        subst z
        exact sa1.nt b ps e
      have cne : ∀ {b : Addr} {q : Str} (ps : Array Value), LamX.CodeO b q ≠ .tbl ps := fun {b q} ps z => LamX.codeO_ne ps z
      have sa2 : SA c F1 H1 σ τ1 S1 := ⟨fun b o e => eN b o (sa1.ex b o e) (nF b o e), sa1.nt, sa1.fb, ⟨T1, fun p hp => eN _ _ (sa1.tb.code p hp) (cne)⟩, Slots.mono (fun _ _ h => h) sa1.sl fun b hb => by
        obtain ⟨h1, o, h2, h3⟩ := sa1.owned b hb
        exact ⟨(eN b o h2 h3).trans h2.symm, h1⟩, sa1.nd, sa1.fx⟩
      obtain ⟨cc, hc⟩ : ∃ cc : Ctx, cc = { c with G := fun a => if a = f' then some r else none, FB := F1, CB := (c', X.env.qual ++ "<lambda>") :: c.CB } := ⟨_, rfl⟩
      have h2 := Post.step (A := []) (Go.trans0 g1 go1) h
      have nc : c' ∉ S1 := fun z => Slots.noExt sa2.sl c' z _ hco
      have arg : tA c g W σ H1 fun vs H2 => H2 c' = some (LamX.CodeO c' (X.env.qual ++ "<lambda>")) ∧ spY cc den (.ref f' :: vs) H2 Q (fun cv dx H' => W cv dx σ H') := by
        refine ⟨τ1, F1, S1, sa2, ?_⟩
        cases e3 : g τ1 with
        | bad => rw [e3] at h2; exact h2
        | ex n d τ' => rw [e3] at h2; exact h2
        | ok hs τ2 =>
          rw [e3] at h2
          intro vs F2 H2 A2 S2 g2 sa3 r3 nd3
          dsimp only [Rz.bind] at h2
          by_cases ok : (okA τ2 hs && D.nks (hs.map (Hdl.get τ2))) = true
          · rw [if_pos ok] at h2
            rw [Bool.and_eq_true] at ok
            obtain ⟨ok, onk⟩ := ok
            obtain ⟨A3, S3, q1, sa4, nd4, hm4⟩ := lend_sound ok r3 sa3 nd3
            have n4 := List.nodup_append.mp nd4
            have kK : cc.K = c.K := by rw [hc]
            have kM : cc.mg = c.mg := by rw [hc]
            have ff : ∀ b o, F1 b = some o → F2 b = some o := g2.f
            have tb2 : Tb cc H2 := by
              rw [hc]
              refine ⟨sa4.tb.tabs, fun p hp => ?_⟩
              rcases List.mem_cons.mp hp with rfl | hp
              · exact g2.h _ _ hco cne nc
              · exact sa4.tb.code p hp
            have conv : ∀ {F' H' : Hp}, Fin' cc F' H' → Fin' c F' H' := fun {F' H'} fin => ⟨fin.ex, fin.nt, by
              have t := fin.tb
              rw [hc] at t
              exact ⟨t.tabs, fun p hp => t.code p (List.mem_cons_of_mem _ hp)⟩⟩
            have rcc : Rels cc F2 H2 (r :: hs.map (Hdl.get τ2)) (.ref f' :: vs) A3 := ⟨.ref f', vs, [], A3, rfl, rfl, by
              unfold cloOf at e2
              have hG : cc.G f' = some r := by rw [hc]; exact if_pos rfl
              cases e4 : fb (onlyD cap 0 τ1) with
              | bad => rw [e4] at e2; cases e2
              | ex n d _ =>
                rw [e4] at e2
                have e2 : (if d.nk then some (D.tex n d) else none) = some r := e2
                split at e2 <;> cases e2
                exact ⟨f', rfl, hG, rfl⟩
              | ok h _ =>
                rw [e4] at e2
                cases h with
                | slot _ => cases e2
                | val d =>
                  have e2 : (if d.nk then some (D.tok d) else none) = some r := e2
                  split at e2 <;> cases e2
                  exact ⟨f', rfl, hG, rfl⟩, Rels.ctx kK q1 onk⟩
            refine ⟨g2.h _ _ hco cne nc, F2, r :: hs.map (Hdl.get τ2), A3, ⟨sa4.ex, sa4.nt, tb2⟩, fun b o e => ff b o (by rw [hc] at e; exact e), rcc, n4.1, ?_⟩
            cases e5 : den (r :: hs.map (Hdl.get τ2)) with
            | bad => rw [e5] at h2; exact h2.elim
            | ex n d =>
              rw [e5] at h2
              dsimp only at h2
              by_cases hn : d.nk = true
              · rw [if_pos hn] at h2
                intro cv dx F' H' go fin x
                obtain ⟨sa5, _⟩ := sa4.beside go (conv fin) nd4
                exact (show Post c (fun F H => RelH c F H σ) W F1 H1 σ S1 Q (.ex n d (lendD hs τ2)) from h2) cv dx F' H' S3 (Go.trans0 g2 (go.wide (fun b z => hm4 b (List.mem_append_left _ z)) fun b hb => .inr (hm4 b (List.mem_append_right _ hb)))) sa5 (x.ctx kK.symm kM.symm hn)
              · rw [if_neg hn] at h2
                exact h2.elim
            | ok d ps =>
              rw [e5] at h2
              cases ps with
              | nil => exact h2.elim
              | cons p0 ps =>
                dsimp only at h2
                by_cases hn : (d.nk && ps.all nkU) = true
                · rw [if_pos hn] at h2
                  rw [Bool.and_eq_true] at hn
                  intro v F' H' B B' go fin rr sl nd
                  obtain ⟨B0, B1, rfl, _, sl1⟩ := sl
                  obtain ⟨sa5, dis⟩ := sa4.beside go (conv fin) nd4
                  have nb := List.nodup_append.mp nd
                  have nb1 := List.nodup_append.mp nb.2.1
                  obtain ⟨S4, sa6, hm6⟩ := wb_sound (ds := hs.map (Hdl.get τ2)) r3 sa5 (Slots.ctxN kK.symm sl1 hn.2) (List.nodup_append.mpr ⟨nb1.2.1, n4.2.1, fun x hx y hy z => by
                    subst z
                    exact dis x hy (List.mem_append_right _ (List.mem_append_right _ hx))⟩)
                  refine (show Post c (fun F H => RelH c F H σ) W F1 H1 σ S1 Q (.ok (.val d) (wbD hs (hs.map (Hdl.get τ2)) ps (lendD hs τ2))) from h2) v F' H' B S4 (Go.trans0 g2 (go.wide (fun b z => hm4 b (List.mem_append_left _ z)) fun b hb => ?_)) sa6 (Rel.ctx kK.symm rr hn.1) (List.nodup_append.mpr ⟨nb.1, sa6.nd, fun x hx y hy z => ?_⟩)
                  · rcases List.mem_append.mp hb with z | z
                    · exact .inl (List.mem_append_left _ z)
                    · rcases List.mem_append.mp (hm6 b z) with z | z
                      · exact .inl (List.mem_append_right _ (List.mem_append_right _ z))
                      · exact .inr (hm4 b (List.mem_append_right _ z))
                  · subst z
                    rcases List.mem_append.mp (hm6 x hy) with z | z
                    · exact nb.2.2 x hx x (List.mem_append_right _ z) rfl
                    · exact dis x z (List.mem_append_left _ hx)
                · rw [if_neg hn] at h2
                  exact h2.elim
          · rw [if_neg ok] at h2
            exact h2.elim
      have fsub : ∀ b ∈ X.fs, b ∈ frs X.stack := fun b hb => by
        rcases I1.ok.stk with e | ⟨e, hfr⟩
        · rw [e]
          exact hb
        · rw [e]
          unfold frs
          rw [List.filterMap_cons, hfr]
          exact List.mem_cons_of_mem _ hb
      have nloc : f' ≠ X.env.locals := fun z => by
        obtain ⟨m, ⟨o, es', ep, ho, hd, _⟩, _⟩ := I1.loc
        rw [← z, hf] at ho
        cases ho
        cases hd
      have I1' : Inv X ((f', PySem.W.kla_obj "<lambda>" (X.env.qual ++ "<lambda>") params body scope (cloFrom X.env.cells scope.names []) pm' c' ctv) :: pins) σ H1 s' := I1.pins_of fun q hq => by
        rcases List.mem_cons.mp hq with rfl | hq
        · exact ⟨hf, hfn, nloc, fun z => hfr (fsub _ z), fun v z => by cases z⟩
        · exact I1.pin q (List.mem_append_right _ hq)
      refine wpAny_mono ((ha.pa W tk).run pos _ s' σ H1 _ I1' arg) (fun us s2 hq => ?_) fun _ _ z => z
      obtain ⟨vs, H2, I2', r2, hco2, q2⟩ := hq
      have I2 : Inv X pins σ H2 s2 := I2'.pins_of fun q hq => I2'.pin q (List.mem_append_right _ (List.mem_cons_of_mem _ hq))
      have pf := I2'.pin (f', _) (List.mem_append_right _ List.mem_cons_self)
      refine ⟨I2.kIn, ?_⟩
      have CG2 : CloG X.prog X.w X.K X.mg X.base cc (LB + 1) X.stack s2 H2 := clo_made (cap := cap) (fb := fb) hK hM L hbind hbody I2 sa2.sl e2 pf.1 pf.2.1 hco2 hc
      show wpAny _ _ (call (.ref f) (.ref f' :: us)) _ _ _
      refine wpAny_call (codeAny_mono (G.run cc X.A X.stack s2 H2 (.ref f' :: us) (.ref f' :: vs) Q (fun cv dx H' => W cv dx σ H') (by rw [hc]; exact hK) (by rw [hc]; exact hM) (by rw [hc]) hr I2.env0 CG2 (.cons rfl r2) q2) fun r s3 hq => ?_)
      cases r with
      | error e => exact passAt tk σ pins H2 s2 e s3 I2 hq
      | ok fl =>
        cases fl with
        | ret u => exact I2.after hq
        | next => exact False.elim hq
        | brk => exact False.elim hq
        | cont => exact False.elim hq
end
end Y
end

section
set_option Elab.async false
set_option linter.all false
set_option maxRecDepth 100000
set_option maxHeartbeats 4000000
/-! Y11: lists and dicts of slots are written. -/
namespace Y
open PySem PySem.Spec PyProof.Rows L2

/-- what a write may change: neither a table nor a code object -/
def Wr : HO → Bool
  | .lst _ => true
  | .dK _ => true
  | _ => false
section
variable {c : Ctx} {F H F1 H1 F2 H2 : Hp} {σ : L2.St} {τ τ1 : List D} {S S1 A B : List Addr} {W : WX} {E : Ends}
theorem tb_upd (t : Tb c H) {p : Addr} {o u : HO} (hp : H p = some o) (ho : Wr o = true) : Tb c (upd H p u) := by
  have ne : ∀ b u', H b = some u' → Wr u' = false → b ≠ p := fun b u' e n z => by
    subst z
    rw [hp] at e
    cases e
    rw [n] at ho
    cases ho
  refine ⟨fun q hq => ?_, fun q hq => ?_⟩
  · obtain ⟨ps, h1, h2, h3⟩ := t.tabs q hq
    refine ⟨ps, by rw [upd_ne (ne _ _ h1 rfl)]; exact h1, h2, fun pos cv hc => ?_⟩
    obtain ⟨c', e1, e2⟩ := h3 pos cv hc
    exact ⟨c', e1, by rw [upd_ne (ne _ _ e2 rfl)]; exact e2⟩
  · have e := t.code q hq
    rw [upd_ne (ne _ _ e rfl)]
    exact e
theorem SA.upd (sa : SA c F H σ τ S) {p : Addr} {o u : HO} (hp : H p = some o) (ho : Wr o = true) (hf : F p = none) (hs : p ∉ S) : SA c F (upd H p u) σ τ S := by
  refine ⟨fun b o e => ?_, sa.nt, sa.fb, tb_upd sa.tb hp ho, Slots.mono (fun _ _ h => h) sa.sl fun b hb => ⟨upd_ne fun z => hs (z ▸ hb), (sa.owned b hb).1⟩, sa.nd, sa.fx⟩
  rw [upd_ne fun z => by rw [z, hf] at e; cases e]
  exact sa.ex b o e
theorem Rel.upd {d : D} {v : V} (r : Rel c F H d v A) {p : Addr} {u : HO} (hs : p ∉ A) : Rel c F (upd H p u) d v A :=
  Rel.mono (fun _ _ h => h) r fun b hb => ⟨upd_ne fun z => hs (z ▸ hb), (r.owned b hb).1⟩
theorem Rels.upd {d : List D} {v : List V} (r : Rels c F H d v A) {p : Addr} {u : HO} (hs : p ∉ A) : Rels c F (upd H p u) d v A :=
  Rels.mono (fun _ _ h => h) r fun b hb => ⟨upd_ne fun z => hs (z ▸ hb), (r.owned b hb).1⟩
theorem go_upd {p : Addr} {u : HO} (hs : p ∈ S) (h : ∀ b ∈ S1, b ∈ S) : Go F H S F (L2.upd H p u) S1 :=
  ⟨fun _ _ h => h, fun b o e _ nb => by rw [upd_ne (fun z => nb (by rw [z]; exact hs))]; exact e, fun b hb => .inl (h b hb), fun b o e => .inl e⟩
/-- the list of a slot in hand -/
theorem SA.own (sa : SA c F H σ τ S) {i : Nat} {xs : List D} (hi : τ[i]? = some (.lst true xs)) :
    ∃ p vs B S0, σ[i]? = some (some (.ref p)) ∧ H p = some (.lst vs) ∧ F p = none ∧ Rels c F H xs vs B ∧ SA c F H σ (τ.set i .un) S0 ∧ (p :: B ++ S0).Nodup ∧ ∀ b, b ∈ p :: B ++ S0 ↔ b ∈ S := by
  obtain ⟨v, A, S0, e1, r, sa', nd, hm⟩ := sa.take hi (by simp)
  obtain ⟨p, vs, B, rfl, h1, h2, rfl, r⟩ := r
  exact ⟨p, vs, B, S0, e1, h1, h2, r, sa', nd, hm⟩
/-- a slot's list is rewritten: ws stands in it now; B' are the owned things in it -/
theorem SA.rewrite {S0 : List Addr} {i : Nat} (sa : SA c F H σ (τ.set i .un) S0) {p : Addr} {vs ws : List V} {B' : List Addr} {ys : List D} (e1 : σ[i]? = some (some (.ref p))) (hp : H p = some (.lst vs)) (hf : F p = none)
    (r : Rels c F H ys ws B') (nd : (p :: B' ++ S0).Nodup) : ∃ S', SA c F (L2.upd H p (.lst ws)) σ (τ.set i (.lst true ys)) S' ∧ ∀ b ∈ S', b ∈ p :: B' ++ S0 := by
  have n1 := List.nodup_append.mp nd
  have n2 := List.nodup_cons.mp n1.1
  have ps : p ∉ S0 := fun z => n1.2.2 p List.mem_cons_self p z rfl
  have sa2 := sa.upd (u := .lst ws) hp rfl hf ps
  have r2 : Rel c F (L2.upd H p (.lst ws)) (.lst true ys) (.ref p) (p :: B') := ⟨p, ws, B', rfl, upd_same, hf, rfl, r.upd n2.1⟩
  obtain ⟨S', sa3, hm⟩ := sa2.reput (slotR_mk r2) nd e1
  rw [List.set_set] at sa3
  exact ⟨S', sa3, hm⟩
theorem rels_set {xs : List D} {vs : List V} {d : D} {v : V} {A B : List Addr} (r : Rels c F H xs vs B) (r1 : Rel c F H d v A) (j : Nat) (nd : (A ++ B).Nodup) :
    ∃ B', Rels c F H (xs.set j d) (vs.set j v) B' ∧ B'.Nodup ∧ ∀ b ∈ B', b ∈ A ++ B := by
  by_cases hj : j < xs.length
  · have ex : xs = xs.take j ++ (xs[j] :: xs.drop (j + 1)) := by simp
    rw [ex] at r
    obtain ⟨ws, us, B1, B2, rfl, rfl, q1, q2⟩ := r.split
    obtain ⟨v0, us, A0, B3, rfl, rfl, q3, q4⟩ := q2
    have l1 : ws.length = j := by
      rw [q1.length, List.length_take]
      omega
    have n1 := List.nodup_append.mp nd
    have n2 := List.nodup_append.mp n1.2.1
    have n3 := List.nodup_append.mp n2.2.1
    refine ⟨B1 ++ (A ++ B3), ?_, ?_, fun b hb => ?_⟩
    · have e1 : xs.set j d = xs.take j ++ d :: xs.drop (j + 1) := by
        rw [List.set_eq_take_append_cons_drop]
        simp [hj]
      have e2 : (ws ++ v0 :: us).set j v = ws ++ v :: us := by
        rw [List.set_append_right _ _ (by omega), l1, Nat.sub_self, List.set_cons_zero]
      rw [e1, e2]
      exact q1.append (.cons r1 q4)
    · refine List.nodup_append.mpr ⟨n2.1, List.nodup_append.mpr ⟨n1.1, n3.2.1, fun x hx y hy => n1.2.2 x hx y (List.mem_append_right _ (List.mem_append_right _ hy))⟩, fun x hx y hy z => ?_⟩
      subst z
      rcases List.mem_append.mp hy with hy | hy
      · exact n1.2.2 x hy x (List.mem_append_left _ hx) rfl
      · exact n2.2.2 x hx x (List.mem_append_right _ hy) rfl
    · rcases List.mem_append.mp hb with y | y
      · exact List.mem_append_right _ (List.mem_append_left _ y)
      · rcases List.mem_append.mp y with y | y
        · exact List.mem_append_left _ y
        · exact List.mem_append_right _ (List.mem_append_right _ (List.mem_append_right _ y))
  · have l := r.length
    rw [List.set_eq_of_length_le (by omega), List.set_eq_of_length_le (by omega)]
    exact ⟨B, r, (List.nodup_append.mp nd).2.1, fun b hb => List.mem_append_right _ hb⟩
end
section
variable {X : Cx} {c : Ctx} {a b e : Expr} {rest es : List Expr} {f f1 f2 f3 : Den Hdl} {g : Den (List Hdl)} {pos : Pos} {st : Stmt} {sts sts2 : List Stmt} {p q : SDen}
/-- x[e1] = e, x an own list -/
def putAt (i : Nat) (k d : D) (τ : List D) : Option (List D) := match k, τ[i]? with
  | .int k, some (.lst true xs) => (ixN xs.length k).map fun j => τ.set i (.lst true (xs.set j d))
  | _, _ => none
def sSto (i : Nat) (fi f : Den Hdl) : SDen := fun τ => onE (f τ) fun h τ1 => match h, τ1[i]? with
  | .val d, some (.lst true _) => onE (fi τ1) fun h2 τ2 => match putAt i (h2.get τ2) d τ2 with
    | some τ3 => .nx τ3
    | none => .bad
  | _, _ => .bad
theorem s_sto {i : Nat} {x : Str} {ei : Expr} {px ps : Pos} (hN : X.N[i]? = some x) (he : Tr X c e f) (hi : Tr X c ei f1)
    (hv : Vis X.env.scope x := by first | exact Or.inl rfl | exact Or.inr (Or.inl rfl) | exact Or.inr (Or.inr rfl)) (hd : (x == ("__debug__" : Str)) = false := by decide) (hcd : (x == ("__classdict__" : Str)) = false := by decide)
    (ha : ∀ v, assign (.Subscript (.Name x px) ei ps) X.env v = (do
      let ov ← holding [v] (eval (.Name x px) X.env)
      let iv ← holding [v, ov] (eval ei X.env)
      standAt ps
      holding [v, ov, iv] (setItem ov iv v)
      release [v, ov, iv] []) := by intro _; rfl)
    (hs : swapsWithSole [.Subscript (.Name x px) ei ps] e pos.line X.env = pure false := by rfl) (hw : swappedStores [.Subscript (.Name x px) ei ps] e X.env = pure none := by rfl)
    (h1 : (assignEach [.Subscript (.Name x px) ei ps] X.env).map (·.2) = [assign (.Subscript (.Name x px) ei ps) X.env] := by rfl) : Ts X c (.Assign [.Subscript (.Name x px) ei ps] e pos) (sSto i f1 f) := by
  refine ⟨fun W tk => ps_mono (ps_asg (he.pe W tk) (pg_sub (pe_var hN hv hd hcd) (hi.pe W tk) set_list ha) hs hw h1) fun E σ H h => ?_⟩
  refine onE_sound h fun {h τ1 v F1 H1 A S1} sa r nd q => ?_
  cases h with
  | slot j => exact q.elim
  | val d =>
    cases hi1 : τ1[i]? with
    | none => rw [hi1] at q; exact q.elim
    | some d1 =>
      rw [hi1] at q
      cases d1 <;> first | (exact q.elim; done) | skip
      rename_i o1 xs1
      cases o1 <;> first | (exact q.elim; done) | skip
      obtain ⟨p0, vs0, B0, S00, e0, _, _, _, _, _, _⟩ := sa.own hi1
      have q : PostS c W E F1 H1 (A ++ S1) (onE (f1 τ1) fun h2 τ2 => match putAt i (h2.get τ2) d τ2 with
        | some τ3 => .nx τ3
        | none => .bad) := q
      refine ⟨.ref p0, e0, τ1, F1, S1, sa, ?_⟩
      cases e2 : f1 τ1 with
      | bad => rw [e2] at q; exact q
      | ex n d' τ2 =>
        rw [e2] at q
        intro cv dx F' H' S' go sa' x
        exact (show PostS c W E F1 H1 (A ++ S1) (.ex n d' τ2) from q) cv dx σ F' H' S' (go.wide (fun b hb => List.mem_append_right _ hb) fun b hb => .inl hb) sa' x
      | ok h2 τ2 =>
        rw [e2] at q
        intro v2 F2 H2 A2 S2 g2 sa2 r2 nd2
        have q : PostS c W E F1 H1 (A ++ S1) (match putAt i (h2.get τ2) d τ2 with
          | some τ3 => .nx τ3
          | none => .bad) := q
        cases e3 : putAt i (h2.get τ2) d τ2 with
        | none => rw [e3] at q; exact q.elim
        | some τ3 =>
          rw [e3] at q
          unfold putAt at e3
          cases ek : h2.get τ2 <;> rw [ek] at e3 <;> first | (cases e3; done) | skip
          rename_i k
          cases hi2 : τ2[i]? with
          | none => rw [hi2] at e3; cases e3
          | some d2 =>
            rw [hi2] at e3
            cases d2 <;> first | (cases e3; done) | skip
            rename_i o2 xs
            cases o2 <;> first | (cases e3; done) | skip
            have e3 : (ixN xs.length k).map (fun j => τ2.set i (.lst true (xs.set j d))) = some τ3 := e3
            cases hx : ixN xs.length k with
            | none => rw [hx] at e3; cases e3
            | some j =>
              rw [hx] at e3
              cases e3
              obtain ⟨p, vs, B, S0, e1, hp, hf, rr, sa3, nd3, hm⟩ := sa2.own hi2
              rw [e0] at e1
              cases e1
              have ev : v2 = .int k := by
                rcases r2.get sa2 with z | ⟨B, z⟩
                · rw [ek] at z; cases z
                · rw [ek] at z
                  exact z.1
              subst ev
              refine ⟨p0, vs, k, j, rfl, rfl, hp, by rw [rr.length]; exact hx, ?_⟩
              have n2 := List.nodup_append.mp nd2
              have r' := r.hand g2 nd
              have ndA := nodup_hand g2 r.owned nd nd2
              have nA := List.nodup_append.mp ndA
              have dA : ∀ b ∈ A, b ∉ S2 := fun b hb z => nA.2.2 b hb b (List.mem_append_right _ z) rfl
              have n3 := List.nodup_append.mp nd3
              have n4 := List.nodup_cons.mp n3.1
              obtain ⟨B', rs, nB, mB⟩ := rels_set rr r' j (List.nodup_append.mpr ⟨nA.1, n4.2, fun x hx y hy z => by
                subst z
                exact dA x hx ((hm x).mp (List.mem_append_left _ (List.mem_cons_of_mem _ hy)))⟩)
              have ndN : (p0 :: B' ++ S0).Nodup := by
                refine List.nodup_append.mpr ⟨List.nodup_cons.mpr ⟨fun z => ?_, nB⟩, n3.2.1, fun x hx y hy z => ?_⟩
                · rcases List.mem_append.mp (mB p0 z) with z | z
                  · exact dA p0 z ((hm p0).mp (List.mem_append_left _ List.mem_cons_self))
                  · exact n4.1 z
                · subst z
                  rcases List.mem_cons.mp hx with rfl | hx
                  · exact n3.2.2 x List.mem_cons_self x hy rfl
                  · rcases List.mem_append.mp (mB x hx) with z | z
                    · exact dA x z ((hm x).mp (List.mem_append_right _ hy))
                    · exact n3.2.2 x (List.mem_cons_of_mem _ z) x hy rfl
              obtain ⟨S', sa4, hm4⟩ := SA.rewrite (τ := τ2) (ws := vs.set j v) sa3 e0 hp hf rs ndN
              refine (show PostS c W E F1 H1 (A ++ S1) (.nx (τ2.set i (.lst true (xs.set j d)))) from q) σ F2 _ S' ?_ sa4
              have hp0 : p0 ∈ S2 := (hm p0).mp (List.mem_append_left _ List.mem_cons_self)
              have g3 : Go F1 H1 (A ++ S1) F2 H2 (A ++ S2) := g2.wide (fun b hb => List.mem_append_right _ hb) fun b hb => by
                rcases List.mem_append.mp hb with z | z
                · exact .inr (List.mem_append_left _ z)
                · exact .inl (List.mem_append_right _ z)
              refine Go.trans0 g3 (go_upd (List.mem_append_right _ hp0) fun b hb => ?_)
              rcases List.mem_append.mp (hm4 b hb) with z | z
              · rcases List.mem_cons.mp z with rfl | z
                · exact List.mem_append_right _ hp0
                · rcases List.mem_append.mp (mB b z) with z | z
                  · exact List.mem_append_left _ z
                  · exact List.mem_append_right _ ((hm b).mp (List.mem_append_left _ (List.mem_cons_of_mem _ z)))
              · exact List.mem_append_right _ ((hm b).mp (List.mem_append_right _ z))
end

/-! ### methods of an own list -/
/-- what a method does with the list, its arguments in hand -/
structure MtO (c : Ctx) (r : V → List V → Hp → VK → Prop) (op : List D → List D → Option (D × List D)) : Prop where
  run : ∀ {F H : Hp} {p : Addr} {vs us : List V} {xs as ys : List D} {A B : List Addr} {d : D}, (∀ b o, F b = some o → H b = some o) → H p = some (.lst vs) → F p = none → Rels c F H xs vs B → Rels c F H as us A → (A ++ p :: B).Nodup → op xs as = some (d, ys) →
    ∃ w ws Bd B', (∀ Q : VK, Q w (upd H p (.lst ws)) → r (.ref p) us H Q) ∧ Rel c F H d w Bd ∧ Rels c F H ys ws B' ∧ (Bd ++ B').Nodup ∧ ∀ b ∈ Bd ++ B', b ∈ A ++ B
def appL : List D → List D → Option (D × List D) := fun xs as => match as with
  | [d] => if xs.length < 100000 then some (.non, xs ++ [d]) else none
  | _ => none
def extL : List D → List D → Option (D × List D) := fun xs as => match as with
  | [.lst _ zs] => if xs.length + zs.length ≤ 100000 then some (.non, xs ++ zs) else none
  | _ => none
def popL : List D → List D → Option (D × List D) := fun xs as => match as with
  | [] => xs.getLast?.map fun d => (d, xs.dropLast)
  | _ => none
def runL (op : List D → List D → Option (D × List D)) (i : Nat) (as : List D) (τ : List D) : Rz Hdl := match τ[i]? with
  | some (.lst true xs) => match op xs as with
    | some (d, ys) => .ok (.val d) (τ.set i (.lst true ys))
    | none => .bad
  | _ => .bad
def mtD (op : List D → List D → Option (D × List D)) (i : Nat) (g : Den (List Hdl)) : Den Hdl := fun τ => match τ[i]? with
  | some (.lst true _) => (g τ).bind fun hs τ1 => match valsOf hs with
    | some as => runL op i as τ1
    | none => .bad
  | _ => .bad
section
variable {X : Cx} {c : Ctx} {a b e : Expr} {rest es : List Expr} {f f1 f2 f3 : Den Hdl} {g : Den (List Hdl)} {pos : Pos} {F H F1 H1 : Hp} {σ : L2.St} {τ τ1 : List D} {S S1 A : List Addr} {W : WX}
/-- the method runs -/
theorem run_core {op : List D → List D → Option (D × List D)} {r : V → List V → Hp → VK → Prop} {i : Nat} {as : List D} {us : List V} {Q : VK} (hm : MtO c r op) (sa : SA c F H σ τ S) (ra : Rels c F H as us A) (nd : (A ++ S).Nodup) {p : Addr} (e0 : σ[i]? = some (some (.ref p)))
    (h : Post c (fun F H => RelH c F H σ) W F H σ (A ++ S) Q (runL op i as τ)) : r (.ref p) us H Q := by
  unfold runL at h
  cases hi : τ[i]? with
  | none => rw [hi] at h; exact h.elim
  | some d2 =>
    rw [hi] at h
    cases d2 <;> first | (exact h.elim; done) | skip
    rename_i o2 xs
    cases o2 <;> first | (exact h.elim; done) | skip
    cases eo : op xs as with
    | none => dsimp only at h; rw [eo] at h; exact h.elim
    | some dy =>
      obtain ⟨d, ys⟩ := dy
      dsimp only at h
      rw [eo] at h
      obtain ⟨p', vs, B, S0, e1, hp, hf, rr, sa3, nd3, hm3⟩ := sa.own hi
      rw [e0] at e1
      cases e1
      have n1 := List.nodup_append.mp nd
      have n3 := List.nodup_append.mp nd3
      obtain ⟨w, ws, Bd, B', hr, rd, ry, ndb, mb⟩ := hm.run sa.ex hp hf rr ra (List.nodup_append.mpr ⟨n1.1, n3.1, fun x hx y hy => n1.2.2 x hx y ((hm3 y).mp (List.mem_append_left _ hy))⟩) eo
      refine hr Q ?_
      have n4 := List.nodup_cons.mp n3.1
      have hpA : p ∉ A := fun z => n1.2.2 p z p ((hm3 p).mp (List.mem_append_left _ List.mem_cons_self)) rfl
      have pn : p ∉ Bd ++ B' := fun z => by
        rcases List.mem_append.mp (mb p z) with z | z
        · exact hpA z
        · exact n4.1 z
      have nb := List.nodup_append.mp ndb
      have off : ∀ x ∈ Bd ++ B', x ∉ S0 := fun x hx hy => by
        rcases List.mem_append.mp (mb x hx) with z | z
        · exact n1.2.2 x z x ((hm3 x).mp (List.mem_append_right _ hy)) rfl
        · exact n3.2.2 x (List.mem_cons_of_mem _ z) x hy rfl
      obtain ⟨S', sa4, hm4⟩ := SA.rewrite (τ := τ) (ws := ws) sa3 e0 hp hf ry (List.nodup_append.mpr ⟨List.nodup_cons.mpr ⟨fun z => pn (List.mem_append_right _ z), nb.2.1⟩, n3.2.1, fun x hx y hy z => by
        subst z
        rcases List.mem_cons.mp hx with rfl | hx
        · exact n3.2.2 x List.mem_cons_self x hy rfl
        · exact off x (List.mem_append_right _ hx) hy⟩)
      have hp0 : p ∈ S := (hm3 p).mp (List.mem_append_left _ List.mem_cons_self)
      have inS : ∀ x ∈ Bd ++ B', x ∈ A ++ S := fun x hx => by
        rcases List.mem_append.mp (mb x hx) with z | z
        · exact List.mem_append_left _ z
        · exact List.mem_append_right _ ((hm3 x).mp (List.mem_append_left _ (List.mem_cons_of_mem _ z)))
      refine (show Post c (fun F H => RelH c F H σ) W F H σ (A ++ S) Q (.ok (.val d) (τ.set i (.lst true ys))) from h) w F _ Bd S' (go_upd (List.mem_append_right _ hp0) fun b hb => ?_) sa4 (rd.upd fun z => pn (List.mem_append_left _ z)) (List.nodup_append.mpr ⟨nb.1, sa4.nd, fun x hx y hy z => ?_⟩)
      · rcases List.mem_append.mp hb with z | z
        · exact inS b (List.mem_append_left _ z)
        · rcases List.mem_append.mp (hm4 b z) with z | z
          · rcases List.mem_cons.mp z with rfl | z
            · exact List.mem_append_right _ hp0
            · exact inS b (List.mem_append_right _ z)
          · exact List.mem_append_right _ ((hm3 b).mp (List.mem_append_right _ z))
      · subst z
        rcases List.mem_append.mp (hm4 x hy) with z | z
        · rcases List.mem_cons.mp z with rfl | z
          · exact pn (List.mem_append_left _ hx)
          · exact nb.2.2 x hx x z rfl
        · exact off x (List.mem_append_left _ hx) z
theorem app_ok : MtO c rAppend appL := by
  refine ⟨fun {F H p vs us xs as ys A B d} ex hp hf r ra nd e => ?_⟩
  unfold appL at e
  split at e <;> first | (cases e; done) | skip
  rename_i d0
  split at e <;> first | (cases e; done) | skip
  rename_i hl
  cases e
  obtain ⟨v, ws, C1, C2, rfl, rfl, r1, r2⟩ := ra
  obtain ⟨rfl, rfl⟩ := r2
  rw [List.append_nil] at nd ⊢
  have n1 := List.nodup_append.mp nd
  have n2 := List.nodup_cons.mp n1.2.1
  refine ⟨.non, vs ++ [v], [], B ++ C1, fun Q q => ⟨p, vs, v, rfl, rfl, hp, ?_, q⟩, ⟨rfl, rfl⟩, r.append ?_, ?_, fun b hb => ?_⟩
  · rw [r.length]
    exact Nat.lt_of_lt_of_le hl (by decide)
  · have q := Rels.cons r1 (Rels.nil (c := c) (F := F) (H := H))
    rw [List.append_nil] at q
    exact q
  · rw [List.nil_append]
    exact List.nodup_append.mpr ⟨n2.2, n1.1, fun x hx y hy z => n1.2.2 y hy x (List.mem_cons_of_mem _ hx) z.symm⟩
  · rw [List.nil_append] at hb
    rcases List.mem_append.mp hb with z | z
    · exact List.mem_append_right _ z
    · exact List.mem_append_left _ z
theorem ext_ok : MtO c rExtend extL := by
  refine ⟨fun {F H p vs us xs as ys A B d} ex hp hf r ra nd e => ?_⟩
  unfold extL at e
  split at e <;> first | (cases e; done) | skip
  rename_i o zs
  split at e <;> first | (cases e; done) | skip
  rename_i hl
  cases e
  obtain ⟨v, ws, C1, C2, rfl, rfl, r1, r2⟩ := ra
  obtain ⟨rfl, rfl⟩ := r2
  rw [List.append_nil] at nd
  have n1 := List.nodup_append.mp nd
  have n2 := List.nodup_cons.mp n1.2.1
  have key : ∃ b ws B2, v = .ref b ∧ H b = some (.lst ws) ∧ Rels c F H zs ws B2 ∧ B2.Nodup ∧ ∀ x ∈ B2, x ∈ C1 := by
    cases o with
    | true =>
      obtain ⟨b, ws, B2, rfl, h1, h2, rfl, r3⟩ := r1
      exact ⟨b, ws, B2, rfl, h1, r3, (List.nodup_cons.mp n1.1).2, fun x hx => List.mem_cons_of_mem _ hx⟩
    | false =>
      obtain ⟨b, ws, rfl, h1, rfl, r3⟩ := r1
      exact ⟨b, ws, [], rfl, ex _ _ h1, r3, List.nodup_nil, fun x hx => hx⟩
  obtain ⟨b, ws, B2, rfl, hb, r3, nB2, mB2⟩ := key
  refine ⟨.non, vs ++ ws, [], B ++ B2, fun Q q => ⟨p, b, vs, ws, rfl, rfl, hp, hb, ?_, q⟩, ⟨rfl, rfl⟩, r.append r3, ?_, fun x hx => ?_⟩
  case refine_2 => rw [List.nil_append]; exact List.nodup_append.mpr ⟨n2.2, nB2, fun x hx y hy z => n1.2.2 y (mB2 y hy) x (List.mem_cons_of_mem _ hx) z.symm⟩
  · rw [r.length, r3.length]
    exact Nat.le_trans hl (by decide)
  · rw [List.append_nil]
    rw [List.nil_append] at hx
    rcases List.mem_append.mp hx with z | z
    · exact List.mem_append_right _ z
    · exact List.mem_append_left _ (mB2 x z)
theorem pop_ok : MtO c rPop popL := by
  refine ⟨fun {F H p vs us xs as ys A B d} ex hp hf r ra nd e => ?_⟩
  unfold popL at e
  split at e <;> first | (cases e; done) | skip
  obtain ⟨rfl, rfl⟩ := ra
  cases e1 : xs.getLast? with
  | none => rw [e1] at e; cases e
  | some d0 =>
    rw [e1] at e
    cases e
    have hne : xs ≠ [] := fun z => by rw [z] at e1; cases e1
    have ex2 : xs = xs.dropLast ++ [d] := by
      have q := List.dropLast_concat_getLast hne
      rw [List.getLast?_eq_some_getLast hne] at e1
      cases e1
      exact q.symm
    rw [ex2] at r
    obtain ⟨ws, us, B1, B2, rfl, rfl, q1, q2⟩ := r.split
    obtain ⟨v, us, C1, C2, rfl, rfl, q3, q4⟩ := q2
    obtain ⟨rfl, rfl⟩ := q4
    rw [List.append_nil] at nd ⊢
    have n2 := List.nodup_cons.mp (show (p :: (B1 ++ C1)).Nodup from nd)
    have n3 := List.nodup_append.mp n2.2
    refine ⟨v, ws, C1, B1, fun Q q => ⟨p, ws ++ [v], v, rfl, rfl, hp, by simp, by simpa using q⟩, q3, q1, ?_, fun b hb => ?_⟩
    · exact List.nodup_append.mpr ⟨n3.2.1, n3.1, fun x hx y hy z => n3.2.2 y hy x hx z.symm⟩
    · rw [List.nil_append]
      rcases List.mem_append.mp hb with z | z
      · exact List.mem_append_right _ z
      · exact List.mem_append_left _ z
theorem t_mt {op : List D → List D → Option (D × List D)} {r : V → List V → Hp → VK → Prop} {i : Nat} {x name : Str} {id : String} {px apos cpos : Pos} (ho : MtO c r op) (slot : Slot "list" name id) (hty : typeOf (.builtin id) = pure (.type "method_descriptor")) (hm : MtR X id r)
    (hN : X.N[i]? = some x) (ha : TrA X c (e :: es) g)
    (hv : Vis X.env.scope x := by first | exact Or.inl rfl | exact Or.inr (Or.inl rfl) | exact Or.inr (Or.inr rfl)) (hd : (x == ("__debug__" : Str)) = false := by decide) (hcd : (x == ("__classdict__" : Str)) = false := by decide)
    (hbase : attributeBase (.Name x px) name X.env (eval (.Name x px) X.env) = eval (.Name x px) X.env := by rfl)
    (hfew : ((backTo cpos (starEach (e :: es) X.env)).all (fun x => !x.1) && (backToKw cpos (keywordEach [] X.env)).all (fun x => x.1.isSome)
      && decide ((e :: es).length + ([] : List Keyword).length + (if ([] : List Keyword).isEmpty then 0 else 1) < 30)) = true := by rfl)
    (hline : (apos.endLine == cpos.line) = true := by rfl) (hs : starEach (e :: es) X.env = (false, eval e X.env) :: starEach es X.env := by rfl) (hplain : (backTo cpos (starEach es X.env)).any (·.1) = false := by rfl) :
    Tr X c (.Call (.Attribute (.Name x px) name apos) (e :: es) [] cpos) (mtD op i g) := by
  refine ⟨fun W tk => pe_mono (pe_bm PySem.F.plainAttrs_list slot hty hm (pe_var hN hv hd hcd) (ha.pa W tk) hbase hfew hline hs hplain) fun σ H Q h => ?_⟩
  obtain ⟨τ, F, S, sa, h⟩ := h
  unfold mtD at h
  cases hi : τ[i]? with
  | none => rw [hi] at h; exact h.elim
  | some d2 =>
    rw [hi] at h
    cases d2 <;> first | (exact h.elim; done) | skip
    rename_i o2 xs
    cases o2 <;> first | (exact h.elim; done) | skip
    obtain ⟨p, vs, B, S0, e0, hp, _, _, _, _, _⟩ := sa.own hi
    refine ⟨.ref p, e0, .inl ⟨rfl, _, .inl (.inl hp)⟩, τ, F, S, sa, ?_⟩
    dsimp only at h
    cases e1 : g τ with
    | bad => rw [e1] at h; exact h
    | ex n d' τ2 => rw [e1] at h; exact h
    | ok hs τ2 =>
      rw [e1] at h
      intro us F2 H2 A2 S2 g2 sa2 r2 nd2
      dsimp only [Rz.bind] at h
      cases e2 : valsOf hs with
      | none => rw [e2] at h; exact h.elim
      | some as =>
        rw [e2] at h
        exact run_core ho sa2 (valsOf_rel e2 r2) nd2 e0 (Post.step (A := []) g2 h)
theorem t_mt0 {op : List D → List D → Option (D × List D)} {r : V → List V → Hp → VK → Prop} {i : Nat} {x name : Str} {id : String} {px apos cpos : Pos} (ho : MtO c r op) (slot : Slot "list" name id) (hty : typeOf (.builtin id) = pure (.type "method_descriptor")) (hm : MtR X id r)
    (hN : X.N[i]? = some x)
    (hv : Vis X.env.scope x := by first | exact Or.inl rfl | exact Or.inr (Or.inl rfl) | exact Or.inr (Or.inr rfl)) (hd : (x == ("__debug__" : Str)) = false := by decide) (hcd : (x == ("__classdict__" : Str)) = false := by decide)
    (hbase : attributeBase (.Name x px) name X.env (eval (.Name x px) X.env) = eval (.Name x px) X.env := by rfl)
    (hline : (apos.endLine == cpos.line) = true := by rfl) : Tr X c (.Call (.Attribute (.Name x px) name apos) [] [] cpos) (runL op i []) := by
  refine ⟨fun W tk => pe_mono (pe_bm0 PySem.F.plainAttrs_list slot hty hm (pe_var hN hv hd hcd) hbase hline) fun σ H Q h => ?_⟩
  obtain ⟨τ, F, S, sa, h⟩ := h
  have h0 := h
  unfold runL at h
  cases hi : τ[i]? with
  | none => rw [hi] at h; exact h.elim
  | some d2 =>
    rw [hi] at h
    cases d2 <;> first | (exact h.elim; done) | skip
    rename_i o2 xs
    cases o2 <;> first | (exact h.elim; done) | skip
    obtain ⟨p, vs, B, S0, e0, hp, _, _, _, _, _⟩ := sa.own hi
    exact ⟨.ref p, e0, .inl ⟨rfl, _, .inl (.inl hp)⟩, run_core (A := []) ho sa Rels.nil sa.nd e0 h0⟩
theorem t_append {i : Nat} {x : Str} {px apos cpos : Pos} (hN : X.N[i]? = some x) (ha : TrA X c (e :: es) g)
    (hv : Vis X.env.scope x := by first | exact Or.inl rfl | exact Or.inr (Or.inl rfl) | exact Or.inr (Or.inr rfl)) (hd : (x == ("__debug__" : Str)) = false := by decide) (hcd : (x == ("__classdict__" : Str)) = false := by decide)
    (hbase : attributeBase (.Name x px) "append" X.env (eval (.Name x px) X.env) = eval (.Name x px) X.env := by rfl)
    (hfew : ((backTo cpos (starEach (e :: es) X.env)).all (fun x => !x.1) && (backToKw cpos (keywordEach [] X.env)).all (fun x => x.1.isSome)
      && decide ((e :: es).length + ([] : List Keyword).length + (if ([] : List Keyword).isEmpty then 0 else 1) < 30)) = true := by rfl)
    (hline : (apos.endLine == cpos.line) = true := by rfl) (hs : starEach (e :: es) X.env = (false, eval e X.env) :: starEach es X.env := by rfl) (hplain : (backTo cpos (starEach es X.env)).any (·.1) = false := by rfl) :
    Tr X c (.Call (.Attribute (.Name x px) "append" apos) (e :: es) [] cpos) (mtD appL i g) :=
  t_mt app_ok PySem.F.slot_list_append PySem.F.type_list_append mt_append hN ha hv hd hcd hbase hfew hline hs hplain
theorem t_extend {i : Nat} {x : Str} {px apos cpos : Pos} (hN : X.N[i]? = some x) (ha : TrA X c (e :: es) g)
    (hv : Vis X.env.scope x := by first | exact Or.inl rfl | exact Or.inr (Or.inl rfl) | exact Or.inr (Or.inr rfl)) (hd : (x == ("__debug__" : Str)) = false := by decide) (hcd : (x == ("__classdict__" : Str)) = false := by decide)
    (hbase : attributeBase (.Name x px) "extend" X.env (eval (.Name x px) X.env) = eval (.Name x px) X.env := by rfl)
    (hfew : ((backTo cpos (starEach (e :: es) X.env)).all (fun x => !x.1) && (backToKw cpos (keywordEach [] X.env)).all (fun x => x.1.isSome)
      && decide ((e :: es).length + ([] : List Keyword).length + (if ([] : List Keyword).isEmpty then 0 else 1) < 30)) = true := by rfl)
    (hline : (apos.endLine == cpos.line) = true := by rfl) (hs : starEach (e :: es) X.env = (false, eval e X.env) :: starEach es X.env := by rfl) (hplain : (backTo cpos (starEach es X.env)).any (·.1) = false := by rfl) :
    Tr X c (.Call (.Attribute (.Name x px) "extend" apos) (e :: es) [] cpos) (mtD extL i g) :=
  t_mt ext_ok PySem.F.slot_list_extend PySem.F.type_list_extend mt_extend hN ha hv hd hcd hbase hfew hline hs hplain
theorem t_pop {i : Nat} {x : Str} {px apos cpos : Pos} (hN : X.N[i]? = some x)
    (hv : Vis X.env.scope x := by first | exact Or.inl rfl | exact Or.inr (Or.inl rfl) | exact Or.inr (Or.inr rfl)) (hd : (x == ("__debug__" : Str)) = false := by decide) (hcd : (x == ("__classdict__" : Str)) = false := by decide)
    (hbase : attributeBase (.Name x px) "pop" X.env (eval (.Name x px) X.env) = eval (.Name x px) X.env := by rfl)
    (hline : (apos.endLine == cpos.line) = true := by rfl) : Tr X c (.Call (.Attribute (.Name x px) "pop" apos) [] [] cpos) (runL popL i []) :=
  t_mt0 pop_ok PySem.F.slot_list_pop PySem.F.type_list_pop mt_pop hN hv hd hcd hbase hline
end
end Y
end

section
set_option Elab.async false
set_option linter.all false
set_option maxRecDepth 100000
set_option maxHeartbeats 4000000
/-! Y12: raise, try. -/
namespace Y
open PySem PySem.Spec PyProof.Rows L2

/-- an own error class: its __init__ stands at fI -/
structure ErrK (K : PySem.W.Frag) (C fI : Addr) : Prop where
  oex : OexC K C
  ini : PySem.W.findIn K (.ref C) "__init__" = some (some (.ref fI))
  wha : PySem.W.findIn K (.ref C) "what" = some none
/-- def __init__(self, what): ValueError.__init__(self, what); self.what = what -/
def spRi (K : PySem.W.Frag) : Sp := fun vs H Q _ => ∃ (a C : Addr) (v : V), vs = [.ref a, v] ∧ OexC K C ∧ PySem.W.findIn K (.ref C) "what" = some none ∧ H a = some (exo a C none) ∧
  ∀ dx, H dx = none → dx ≠ a → Q .non (upd (upd H dx (exd dx [(("what" : Str), v)])) a (exo a C (some dx)))
/-- raise x(e) -/
def sRaise (x : Str) (g : Den (List Hdl)) : SDen := fun τ => match g τ with
  | .ok [.val d] τ1 => if d.pl then .ex x d τ1 else .bad
  | .ok _ _ => .bad
  | .ex n d τ1 => .ex n d τ1
  | .bad => .bad
section
variable {X : Cx} {c : Ctx} {a b e : Expr} {rest es : List Expr} {f f1 f2 f3 : Den Hdl} {g : Den (List Hdl)} {pos : Pos} {st : Stmt} {sts sts2 : List Stmt} {p q : SDen} {F H F1 H1 : Hp} {σ : L2.St} {τ τ1 : List D} {S S1 A : List Addr} {W : WX}
theorem s_raise {x : Str} {C fI : Addr} {fd : FuncData} {k : Nat} {px rpos : Pos} (T : ErrK X.K C fI) (tI : PySem.W.typeIn X.K (.ref fI) = some (.type "function")) (F1 : FnOk X.prog X.w X.K X.mg X.base (L2.CX X.prog X.w) k fI fd ["self", "what"] (spRi X.K)) (hr : Room (k + 1) X.A)
    (hb : Binds X.K fd ["self", "what"] []) (hc : X.calm = true) (hM : c.mg = X.mg) (hm : X.mg x = some (.ref C)) (ha : TrA X c [e] g) (hg : Gl X x := by rfl) (hdb : (x == ("__debug__" : Str)) = false := by decide)
    (he : starEach [e] X.env = (false, eval e X.env) :: starEach [] X.env := by rfl) (hpl : (backTo pos (starEach [] X.env)).any (·.1) = false := by rfl) : Ts X c (.Raise (some (.Call (.Name x px) [e] [] pos)) none rpos) (sRaise x g) := by
  refine ⟨fun W tk => ps_mono (ps_raise hc tk (pmk_oex (dvs := []) (ds := []) T.oex T.ini tI F1 hr hb .nil (passes_call tk fun _ _ _ _ z => z.elim) hg hm (ha.pa W tk) hdb he hpl)) fun E σ H h => ?_⟩
  obtain ⟨τ, F, S, sa, h⟩ := h
  unfold sRaise at h
  refine ⟨τ, F, S, sa, ?_⟩
  cases e1 : g τ with
  | bad => rw [e1] at h; exact h
  | ex n d τ1 =>
    rw [e1] at h
    intro cv dx F' H' S' go sa' x
    exact (show PostS c W E F H S (.ex n d τ1) from h) cv dx σ F' H' S' go sa' x
  | ok hs τ1 =>
    rw [e1] at h
    intro vs F1 H1 A1 S1 g1 sa1 r1 nd1
    match hs, h, r1 with
    | [], h, _ => exact h.elim
    | .slot _ :: _, h, _ => exact h.elim
    | .val _ :: _ :: _, h, _ => exact h.elim
    | [.val d], h, r1 =>
      obtain ⟨v, ws, B, C1, rfl, rfl, q1, r2⟩ := r1
      obtain ⟨rfl, rfl⟩ := r2
      have q1 : Rel c F1 H1 d v B := q1
      have h : PostS c W E F H S (if d.pl = true then .ex x d τ1 else .bad) := h
      by_cases hp : d.pl = true
      · rw [if_pos hp] at h
        have eB := Rel.pl_nil q1 hp
        subst eB
        refine ⟨by show 1 ≤ 1000; decide, fun a ha => ⟨a, C, v, rfl, T.oex, T.wha, upd_same, fun dx hdx hne => ⟨rfl, dx, [(("what" : Str), v)], upd_same, ?_, ?_, ?_⟩⟩⟩
        · rw [upd_ne hne, upd_same]
        · rw [upd_ne hne] at hdx
          exact hdx
        · rw [upd_ne hne] at hdx
          have eH : upd (del (upd (upd (upd H1 a (exo a C none)) dx (exd dx [(("what" : Str), v)])) a (exo a C (some dx))) a) dx (.xd [(("what" : Str), v)]) = upd H1 dx (.xd [(("what" : Str), v)]) := by
            funext b
            by_cases hb : b = dx
            · subst hb
              rw [upd_same, upd_same]
            · rw [upd_ne hb, upd_ne hb]
              by_cases hba : b = a
              · subst hba
                rw [del_same, ha]
              · rw [del_ne hba, upd_ne hba, upd_ne hb, upd_ne hba]
          rw [eH]
          have gr : Grow F1 H1 (upd F1 dx (.xd [(("what" : Str), v)])) (upd H1 dx (.xd [(("what" : Str), v)])) [] := grow_frz sa1.ex hdx fun ps z => by cases z
          obtain ⟨sa2, _⟩ := gr.sa sa1
          exact (show PostS c W E F H S (.ex x d τ1) from h) (.ref C) (some dx) σ _ _ S1 (Go.trans0 (Go.less g1 fun b hb => hb) (gr.go S1)) sa2 ⟨C, dx, v, by rw [hM]; exact hm, rfl, rfl, upd_same, gr.rel q1⟩
      · rw [if_neg hp] at h
        exact h.elim

/-! ### try: body, except C as e: suite -/
/-- a slot gets what nobody follows -/
theorem SA.junk (sa : SA c F H σ τ S) {i : Nat} (x : Option V) (hf : c.fx i = false) : ∃ S', SA c F H (σ.set i x) (τ.set i .un) S' ∧ ∀ b ∈ S', b ∈ S := by
  have fx : ∀ j, c.fx j = true → (σ.set i x)[j]? = c.σ0[j]? := fun j hj => by
    have ne : i ≠ j := fun z => by
      subst z
      rw [hf] at hj
      cases hj
    rw [List.getElem?_set_ne ne]
    exact sa.fx j hj
  cases hi : τ[i]? with
  | none =>
    have l1 := sa.sl.length
    have l2 := List.getElem?_eq_none_iff.mp hi
    refine ⟨S, ⟨sa.ex, sa.nt, sa.fb, sa.tb, ?_, sa.nd, fx⟩, fun b hb => hb⟩
    rw [List.set_eq_of_length_le (by omega), List.set_eq_of_length_le (by omega)]
    exact sa.sl
  | some d0 =>
    obtain ⟨y, A0, B1, B2, e1, rfl, r1, k⟩ := Slots.at sa.sl hi
    have n2 := List.nodup_append.mp sa.nd
    have n3 := List.nodup_append.mp n2.2.1
    refine ⟨B1 ++ ([] ++ B2), ⟨sa.ex, sa.nt, sa.fb, sa.tb, k F H x .un [] (fun _ _ h => h) (fun b hb => ⟨rfl, (sa.owned b ?_).1⟩) rfl, ?_, fx⟩, fun b hb => ?_⟩
    · rcases List.mem_append.mp hb with y | y
      · exact List.mem_append_left _ y
      · exact List.mem_append_right _ (List.mem_append_right _ y)
    · exact List.nodup_append.mpr ⟨n2.1, n3.2.1, fun x hx y hy => n2.2.2 x hx y (List.mem_append_right _ hy)⟩
    · rcases List.mem_append.mp hb with y | y
      · exact List.mem_append_left _ y
      · exact List.mem_append_right _ (List.mem_append_right _ y)
/-- the surroundings of an except suite: the caught error a, of the class n, keeps dD; slot i is its name's -/
structure InX (c : Ctx) (i : Nat) (n : Str) (dD : D) (a : Addr) (cls : Value) (d : Option Addr) (c' : Ctx) : Prop where
  K : c'.K = c.K
  mg : c'.mg = c.mg
  T : c'.T = c.T
  G : c'.G = c.G
  fx : c'.fx = fun j => c.fx j || j == i
  s0 : c'.σ0[i]? = some (some (.ref a))
  ex : ExP c' c'.FB c'.FB n dD cls d
def sTry (sub : Str → Option Bool) (i : Nat) (p : SDen) (q : Str → D → SDen) : SDen := fun τ => match p τ with
  | .ex n d τ1 => (match sub n with
    | some true => if i < τ1.length then (match q n d (τ1.set i .un) with
      | .nx τ2 => .nx (τ2.set i .un)
      | .bk τ2 => .bk (τ2.set i .un)
      | .ct τ2 => .ct (τ2.set i .un)
      | .rt d τ2 => .rt d τ2
      | _ => .bad) else .bad
    | some false => .ex n d τ1
    | none => .bad)
  | r => r
theorem s_try {x n : Str} {C : Value} {i : Nat} {sub : Str → Option Bool} {body suite : List Stmt} {b₀ : Stmt} {np pos pos' : Pos} {q : Str → D → SDen} (hs : X.stack = X.env :: X.outer) (hf : X.env.frame = some X.env.locals) (hN : X.N.Nodup) (hi : X.N[i]? = some n) (hln : X.env.kindOf n = some .local) (hc : Names X x C)
    (hK : c.K = X.K) (hM : c.mg = X.mg) (hfi : c.fx i = false) (hsub : ∀ n C' b, X.mg n = some (.ref C') → sub n = some b → PySem.W.exmOne X.K (.ref C') C = some b)
    (hb : ∀ (pn : List (Addr × Obj)) (xe : Value → Shared → Prop), PassesOwn (model X.prog X.w) X.A X.env xe → Tss (X.tr pn xe) c body p)
    (hsu : ∀ (n : Str) (dD : D) (a : Addr) (oe : Obj) (cls : Value) (d : Option Addr) (pn : List (Addr × Obj)) (c' : Ctx), sub n = some true → InX c i n dD a cls d c' → Zc cls d oe → (∃ vs, oe.data = .fields vs) → Tss (X.suite a ((a, oe) :: pn)) c' (b₀ :: suite) (q n dD)) :
    Ts X c (.Try body [.ExceptHandler (some (.Name x np)) (some n) (b₀ :: suite) pos'] [] [] pos) (sTry sub i p q) := by
  refine ⟨fun W tk => ps_mono (ps_try_as (tb := fun W => tS c p W) (ts := fun a cls d D σ H => ∃ n dD c', sub n = some true ∧ InX c i n dD a cls d c' ∧ tS c' (q n dD) (fun _ _ _ _ => False) D σ H) hs hf hN hi hln hc tk (fun W pn xe tk' hp => (hb pn xe hp).pss W tk') (fun a oe cls d pn hz hf => ⟨fun pins s σ H D I h => ?_⟩)) fun E σ H h => ?_⟩
  · obtain ⟨n, dD, c', e1, e2, h⟩ := h
    exact ((hsu n dD a oe cls d pn c' e1 e2 hz hf).pss _ takesF).run pins s σ H D I h
  · obtain ⟨τ, F, S, sa, h⟩ := h
    refine ⟨τ, F, S, sa, ?_⟩
    unfold sTry at h
    cases e1 : p τ with
    | bad => rw [e1] at h; exact h
    | nx τ1 => rw [e1] at h; exact h
    | rt d τ1 => rw [e1] at h; exact h
    | bk τ1 => rw [e1] at h; exact h
    | ct τ1 => rw [e1] at h; exact h
    | ex n d τ1 =>
      rw [e1] at h
      intro cv dx σ1 F1 H1 S1 go sa1 x1
      obtain ⟨C', a', v, m1, rfl, rfl, xF, xr⟩ := id x1
      have h : PostS c W E F H S (match sub n with
        | some true => if i < τ1.length then (match q n d (τ1.set i .un) with
          | .nx τ2 => .nx (τ2.set i .un)
          | .bk τ2 => .bk (τ2.set i .un)
          | .ct τ2 => .ct (τ2.set i .un)
          | .rt d τ2 => .rt d τ2
          | _ => .bad) else .bad
        | some false => .ex n d τ1
        | none => .bad) := h
      cases e2 : sub n with
      | none => rw [e2] at h; exact h.elim
      | some b =>
        refine ⟨b, hsub n C' b (by rw [← hM]; exact m1) e2, fun eb a na => ?_, fun eb => ?_⟩
        · subst eb
          rw [e2] at h
          obtain ⟨c', hc'⟩ : ∃ c' : Ctx, c' = { c with FB := F1, fx := fun j => c.fx j || j == i, σ0 := σ1.set i (some (.ref a)) } := ⟨_, rfl⟩
          have kK : c'.K = c.K := by rw [hc']
          have kG : c'.G = c.G := by rw [hc']
          have kM : c'.mg = c.mg := by rw [hc']
          obtain ⟨S2, sa2, hm2⟩ := sa1.junk (some (.ref a)) hfi
          have sa3 : SA c' F1 H1 (σ1.set i (some (.ref a))) (τ1.set i .un) S2 := ⟨sa2.ex, sa2.nt, fun b o e => by
            rw [hc'] at e
            exact e, by
            have t := sa2.tb
            rw [hc']
            exact ⟨t.tabs, t.code⟩, Slots.ctxG kK kG sa2.sl, sa2.nd, fun j _ => by rw [hc']⟩
          by_cases hl : i < τ1.length
          · have h : PostS c W E F H S (match q n d (τ1.set i .un) with
              | .nx τ2 => .nx (τ2.set i .un)
              | .bk τ2 => .bk (τ2.set i .un)
              | .ct τ2 => .ct (τ2.set i .un)
              | .rt d τ2 => .rt d τ2
              | _ => .bad) := by
              have h' : PostS c W E F H S (if i < τ1.length then (match q n d (τ1.set i .un) with
                | .nx τ2 => .nx (τ2.set i .un)
                | .bk τ2 => .bk (τ2.set i .un)
                | .ct τ2 => .ct (τ2.set i .un)
                | .rt d τ2 => .rt d τ2
                | _ => .bad) else .bad) := h
              rw [if_pos hl] at h'
              exact h'
            have l1 := sa1.sl.length
            refine ⟨n, d, c', e2, ?_, τ1.set i .un, F1, S2, sa3, ?_⟩
            · refine ⟨kK, kM, by rw [hc'], kG, by rw [hc'], ?_, ⟨C', a', v, by rw [kM]; exact m1, rfl, rfl, by rw [hc']; exact xF, ?_⟩⟩
              · rw [hc']
                exact List.getElem?_set_self (by omega)
              · have q := Rel.mono (H' := F1) (fun _ _ h => h) xr (fun b z => by cases z)
                have q2 := Rel.ctxG kK kG q
                rw [hc'] at q2 ⊢
                exact q2
            · -- back from the suite
              have back : ∀ {σ' : L2.St} {τ' : List D} {F' H' : Hp} {S' : List Addr}, SA c' F' H' σ' τ' S' → (∀ b o, F1 b = some o → F' b = some o) → ∃ S3, SA c F' H' (σ'.set i none) (τ'.set i .un) S3 ∧ ∀ b ∈ S3, b ∈ S' := fun {σ' τ' F' H' S'} sa hF => by
                have g2 : SA { c with fx := fun j => false } F' H' σ' τ' S' := ⟨sa.ex, sa.nt, fun b o e => hF b o (sa1.fb b o e), by
                  have t := sa.tb
                  rw [hc'] at t
                  exact ⟨t.tabs, t.code⟩, Slots.ctxG (by rw [hc']) (by rw [hc']) sa.sl, sa.nd, fun j z => by cases z⟩
                obtain ⟨S3, g3, hm⟩ := g2.junk (i := i) none rfl
                refine ⟨S3, ⟨g3.ex, g3.nt, g3.fb, ⟨g3.tb.tabs, g3.tb.code⟩, Slots.ctxG (c := { c with fx := fun j => false }) (c' := c) rfl rfl g3.sl, g3.nd, fun j hj => ?_⟩, hm⟩
                have ne : i ≠ j := fun z => by
                  subst z
                  rw [hfi] at hj
                  cases hj
                have q := sa.fx j (by rw [hc']; show (c.fx j || j == i) = true; rw [hj]; rfl)
                rw [List.getElem?_set_ne ne, q, hc']
                show (σ1.set i (some (.ref a)))[j]? = _
                rw [List.getElem?_set_ne ne]
                exact sa1.fx j hj
              have g0 : Go F H S F1 H1 S2 := Go.less go hm2
              cases e3 : q n d (τ1.set i .un) with
              | bad => rw [e3] at h; exact h
              | ex _ _ _ => rw [e3] at h; exact h.elim
              | nx τ2 =>
                rw [e3] at h
                intro σ' F' H' S' g2 sa'
                obtain ⟨S3, sa4, hm⟩ := back sa' g2.f
                exact (show PostS c W E F H S (.nx (τ2.set i .un)) from h) _ F' H' S3 (Go.less (Go.trans0 g0 g2) hm) sa4
              | bk τ2 =>
                rw [e3] at h
                intro σ' F' H' S' g2 sa'
                obtain ⟨S3, sa4, hm⟩ := back sa' g2.f
                exact (show PostS c W E F H S (.bk (τ2.set i .un)) from h) _ F' H' S3 (Go.less (Go.trans0 g0 g2) hm) sa4
              | ct τ2 =>
                rw [e3] at h
                intro σ' F' H' S' g2 sa'
                obtain ⟨S3, sa4, hm⟩ := back sa' g2.f
                exact (show PostS c W E F H S (.ct (τ2.set i .un)) from h) _ F' H' S3 (Go.less (Go.trans0 g0 g2) hm) sa4
              | rt d2 τ2 =>
                rw [e3] at h
                intro v2 σ' F' H' A' S' g2 sa' rr nd
                have g4 : SA c F' H' σ' τ2 S' := ⟨sa'.ex, sa'.nt, fun b o e => g2.f b o (sa1.fb b o e), by
                  have t := sa'.tb
                  rw [hc'] at t
                  exact ⟨t.tabs, t.code⟩, Slots.ctxG kK.symm kG.symm sa'.sl, sa'.nd, fun j hj => by
                  have ne : i ≠ j := fun z => by
                    subst z
                    rw [hfi] at hj
                    cases hj
                  have q := sa'.fx j (by rw [hc']; show (c.fx j || j == i) = true; rw [hj]; rfl)
                  rw [q, hc']
                  show (σ1.set i (some (.ref a)))[j]? = _
                  rw [List.getElem?_set_ne ne]
                  exact sa1.fx j hj⟩
                exact (show PostS c W E F H S (.rt d2 τ2) from h) v2 σ' F' H' A' S' (Go.trans0 g0 g2) g4 (Rel.ctxG kK.symm kG.symm rr) nd
          · have h' : PostS c W E F H S (if i < τ1.length then (match q n d (τ1.set i .un) with
              | .nx τ2 => .nx (τ2.set i .un)
              | .bk τ2 => .bk (τ2.set i .un)
              | .ct τ2 => .ct (τ2.set i .un)
              | .rt d τ2 => .rt d τ2
              | _ => .bad) else .bad) := h
            rw [if_neg hl] at h'
            exact h'.elim
        · subst eb
          rw [e2] at h
          exact (show PostS c W E F H S (.ex n d τ1) from h) (.ref C') (some a') σ1 F1 H1 S1 go sa1 x1

/-! ### within the suite -/
/-- e.what -/
theorem t_what {i : Nat} {x n : Str} {dD : D} {a : Addr} {oe : Obj} {cls : Value} {d : Option Addr} {pn : List (Addr × Obj)} {c' : Ctx} {px : Pos} (hN : X.N[i]? = some x) (Ix : InX c i n dD a cls d c') (hK : c.K = X.K) (hM : c.mg = X.mg)
    (hX : ∀ C, X.mg n = some (.ref C) → XfC X.K C ∧ PySem.W.findIn X.K (.ref C) "what" = some none) (hz : Zc cls d oe) (hf : ∃ vs, oe.data = .fields vs)
    (hv : Vis X.env.scope x := by first | exact Or.inl rfl | exact Or.inr (Or.inl rfl) | exact Or.inr (Or.inr rfl)) (hd : (x == ("__debug__" : Str)) = false := by decide) (hcd : (x == ("__classdict__" : Str)) = false := by decide)
    (hb : attributeBase (.Name x px) "what" X.env (eval (.Name x px) X.env) = eval (.Name x px) X.env := by rfl) : Tr (X.suite a ((a, oe) :: pn)) c' (.Attribute (.Name x px) "what" pos) (cst dD) := by
  obtain ⟨C, a', v, m1, rfl, rfl, xF, xr⟩ := Ix.ex
  obtain ⟨TX, hno⟩ := hX C (by rw [← hM, ← Ix.mg]; exact m1)
  refine ⟨fun W _ => pe_mono (pe_xf (X := X) TX hno hz hf (pe_var (X := X.suite a ((a, oe) :: pn)) (i := i) hN hv hd hcd) hb) fun σ H Q h => ?_⟩
  obtain ⟨τ, F, S, sa, h⟩ := h
  have e1 : σ[i]? = some (some (.ref a)) := (sa.fx i (by rw [Ix.fx]; simp)).trans Ix.s0
  refine ⟨.ref a, e1, rfl, rfl, a', _, v, rfl, sa.ex _ _ (sa.fb _ _ xF), rfl, ?_⟩
  exact (show Post c' (fun F H => RelH c' F H σ) W F H σ S Q (.ok (.val dD) τ) from h) v F H [] S Go.refl sa (Rel.mono sa.fb xr fun b z => by cases z) sa.nd
/-- isinstance(e, B) -/
structure IsK (K : PySem.W.Frag) (C : Addr) : Prop where
  cl : (PySem.W.clsIn K C).isSome = true
  ga : PySem.W.findIn K (.ref C) "__getattribute__" = some (some (.builtin "BaseException.__getattribute__"))
  gg : PySem.W.findIn K (.ref C) "__getattr__" = some none
  sb : PySem.W.subIn K (.ref C) (.type "BaseException") = some true
  ca : PySem.W.findIn K (.ref C) "__class__" = some (some (.builtin "object.__class__"))
  hn : PySem.W.specialIn K (.builtin "object.__class__") "__get__" = some (some (.builtin "getset_descriptor.__get__"))
  tk : PySem.W.takesIn K (.builtin "object.__class__") = some true
  mr : PySem.W.mroIn K C (.type "object") = some true
def rIsX (K : PySem.W.Frag) (C a dd : Addr) (B : Addr) (b : Bool) : List V → Hp → VK → Prop := fun xs H Q => xs = [.ref a, .ref B] ∧ (∃ fs, H dd = some (.xd fs)) ∧ Q (.bl b) H
theorem call_isX {a C dd B : Addr} {b : Bool} {oe : Obj} {pn : List (Addr × Obj)} (T : IsK X.K C) (hk : PySem.W.kitOne X.K (.ref C) (.ref B) = some b) (hz : Zc (.ref C) (some dd) oe) (hf : ∃ vs, oe.data = .fields vs) :
    CallR (X.suite a ((a, oe) :: pn)) (.builtin "isinstance") (rIsX X.K C a dd B b) := by
  intro pins s σ H xs us Q I r h
  obtain ⟨rfl, ⟨fs, ea⟩, q⟩ := h
  cases r with
  | cons rx rr =>
    cases rr with
    | cons rt rr =>
      cases rr
      cases rx
      cases rt
      obtain ⟨hget, _⟩ := I.pin (a, oe) (List.mem_append.mpr (.inl List.mem_cons_self))
      obtain ⟨vs, hv⟩ := hf
      have hx : ObjOk X.prog X.w H s.heap dd (.xd fs) := I.hok dd _ ea
      obtain ⟨mA, hns, hr⟩ := hx
      obtain ⟨od, ho, hl⟩ := lookIn_ns hns
      have J : PySem.W.InstAt s.heap a oe C (some od) := by
        refine ⟨hget, hz.1, ?_, ?_⟩
        · unfold PySem.W.notCls
          rw [hv] <;> rfl
        · rw [hz.2]
          exact ho
      exact PySem.W.kia_one (PySem.W.kitx_exc T.cl T.ga T.gg T.sb T.ca T.hn T.tk T.mr) I.kIn J hk (fun z => nomatch z) fun tk => ⟨.bl b, H, I.kept (t' := tk) fun _ _ z => z, rfl, q⟩
theorem t_isX {i : Nat} {x y n : Str} {dD : D} {a B : Addr} {b : Bool} {oe : Obj} {cls : Value} {d : Option Addr} {pn : List (Addr × Obj)} {c' : Ctx} {px p0 p1 : Pos} (hN : X.N[i]? = some x) (Ix : InX c i n dD a cls d c') (hM : c.mg = X.mg)
    (hX : ∀ C, X.mg n = some (.ref C) → IsK X.K C ∧ PySem.W.kitOne X.K (.ref C) (.ref B) = some b) (hz : Zc cls d oe) (hf : ∃ vs, oe.data = .fields vs) (hm : X.mg "isinstance" = none) (hmB : X.mg y = some (.ref B))
    (hv : Vis X.env.scope x := by first | exact Or.inl rfl | exact Or.inr (Or.inl rfl) | exact Or.inr (Or.inr rfl)) (hd : (x == ("__debug__" : Str)) = false := by decide) (hcd : (x == ("__classdict__" : Str)) = false := by decide)
    (hg : Gl X "isinstance" := by rfl) (hgB : Gl X y := by rfl) (hdB : (y == ("__debug__" : Str)) = false := by decide)
    (he : starEach [.Name x px, .Name y p1] X.env = (false, eval (.Name x px) X.env) :: starEach [.Name y p1] X.env := by rfl) (he2 : starEach [.Name y p1] X.env = (false, eval (.Name y p1) X.env) :: starEach [] X.env := by rfl) (hpl : (backTo pos (starEach [.Name y p1] X.env)).any (·.1) = false := by rfl) :
    Tr (X.suite a ((a, oe) :: pn)) c' (.Call (.Name "isinstance" p0) [.Name x px, .Name y p1] [] pos) (cst (.bl b)) := by
  obtain ⟨C, a', v, m1, rfl, rfl, xF, xr⟩ := Ix.ex
  obtain ⟨T, hk⟩ := hX C (by rw [← hM, ← Ix.mg]; exact m1)
  refine ⟨fun W _ => pe_mono (pe_callB (X := X.suite a ((a, oe) :: pn)) (call_isX (X := X) T hk hz hf) hg hm (by decide +kernel) (pa_cons (pe_var (X := X.suite a ((a, oe) :: pn)) (i := i) hN hv hd hcd) (pa_cons (pe_glob (X := X.suite a ((a, oe) :: pn)) (v := .ref B) hgB hmB rfl hdB) pa_nil he2) he) (by decide) (by decide) he hpl) fun σ H Q h => ?_⟩
  obtain ⟨τ, F, S, sa, h⟩ := h
  have e1 : σ[i]? = some (some (.ref a)) := (sa.fx i (by rw [Ix.fx]; simp)).trans Ix.s0
  refine ⟨.ref a, e1, rfl, ⟨_, sa.ex _ _ (sa.fb _ _ xF)⟩, ?_⟩
  exact (show Post c' (fun F H => RelH c' F H σ) W F H σ S Q (.ok (.val (.bl b)) τ) from h) (.bl b) F H [] S Go.refl sa ⟨rfl, rfl⟩ sa.nd
end
end Y
end

section
set_option Elab.async false
set_option linter.all false
set_option maxRecDepth 100000
set_option maxHeartbeats 4000000
/-! Y13: the ends: from a law's denotation to the statement. -/
namespace Y
open PySem PySem.Spec PyProof.Rows L2

/-! ### facts of error classes, by a Bool -/
def oexB (K : PySem.W.Frag) (C : Addr) : Bool := match K.lookup C with
  | some ⟨.type t, _, .cls cd, sl⟩ => decide (t = "type") && (match cd.mro, sl.toList with
    | .ref C' :: bm, [_, _, _, _, some (.builtin n), _] => decide (C' = C) && (decide (n = "ValueError.__new__") && (!cd.hasDel && (cd.hasDict && PySem.HandSPX.refsVE bm)))
    | _, _ => false)
  | _ => false
theorem oexB_ok {K : PySem.W.Frag} {C : Addr} (q : oexB K C = true) : ∃ nm qn N bs bm sn sub ab col dd k0 k1 k2 k3 k5, K.lookup C = some (excClassObj nm qn C N bs bm true sn sub ab col dd k0 k1 k2 k3 k5 "ValueError.__new__") ∧ PySem.HandSPX.refsVE bm = true := by
  unfold oexB at q
  cases ho : K.lookup C with
  | none => rw [ho] at q; cases q
  | some o =>
  rw [ho] at q
  obtain ⟨oc, dd, dt, sl⟩ := o
  cases oc <;> cases dt <;> first | (cases q; done) | skip
  rename_i t cd
  have q0 : (decide (t = "type") && (match cd.mro, sl.toList with
    | .ref C' :: bm, [_, _, _, _, some (.builtin n), _] => decide (C' = C) && (decide (n = "ValueError.__new__") && (!cd.hasDel && (cd.hasDict && PySem.HandSPX.refsVE bm)))
    | _, _ => false)) = true := q
  clear q
  obtain ⟨h0, q1⟩ := He.ba q0
  have e0 := of_decide_eq_true h0
  subst e0
  clear q0
  split at q1
  case h_2 => cases q1
  rename_i C' bm k0 k1 k2 k3 n k5 hm hs
  obtain ⟨h1, q2⟩ := He.ba q1
  obtain ⟨h2, q3⟩ := He.ba q2
  obtain ⟨h3, q4⟩ := He.ba q3
  obtain ⟨h4, h5⟩ := He.ba q4
  have e1 := of_decide_eq_true h1
  have e2 := of_decide_eq_true h2
  subst e1 e2
  obtain ⟨nm, bs, mro, ns, qn, hd, sn, sub, ab, col, del⟩ := cd
  dsimp only at hm h3 h4
  subst hm h4
  cases del with
  | true => cases h3
  | false =>
    have hsl : sl = #[k0, k1, k2, k3, some (.builtin "ValueError.__new__"), k5] := by
      obtain ⟨l⟩ := sl
      have : l = _ := hs
      rw [this]
    subst hsl
    exact ⟨nm, qn, ns, bs, bm, sn, sub, ab, col, dd, k0, k1, k2, k3, k5, rfl, h5⟩
/-- all that is asked of an error class -/
def errB (K : PySem.W.Frag) (fI C : Addr) : Bool :=
  oexB K C && (He.eqO (PySem.W.findIn K (.ref C) "__setattr__") (some (some (.builtin "object.__setattr__"))) && (decide (PySem.W.subIn K (.ref C) (.type "BaseException") = some true) && (decide (PySem.W.typeIn K (.ref C) = some (.type "type")) && (PySem.W.keepIn K (.ref C) &&
  (He.eqO (PySem.W.findIn K (.ref C) "__init__") (some (some (.ref fI))) && (He.eqO (PySem.W.findIn K (.ref C) "what") (some none) && (xfB K C && ((PySem.W.clsIn K C).isSome && (He.eqO (PySem.W.findIn K (.ref C) "__class__") (some (some (.builtin "object.__class__"))) &&
  (decide (PySem.W.mroIn K C (.type "object") = some true)))))))))))
/-- what K says of object.__class__ -/
def objB (K : PySem.W.Frag) (fI : Addr) : Bool := He.eqO (PySem.W.specialIn K (.builtin "object.__class__") "__get__") (some (some (.builtin "getset_descriptor.__get__"))) && (decide (PySem.W.takesIn K (.builtin "object.__class__") = some true) &&
  (decide (PySem.W.typeIn K (.ref fI) = some (.type "function")) && (match PySem.W.findCls K (.type "ValueError") (.type "type") "__init__" with
  | some (.val (.builtin n)) => decide (n = "ValueError.__init__")
  | _ => false)))
structure ErrF (K : PySem.W.Frag) (fI C : Addr) : Prop where
  k : ErrK K C fI
  x : XfC K C
  i : IsK K C
theorem errB_ok {K : PySem.W.Frag} {fI C : Addr} (ho : objB K fI = true) (h : errB K fI C = true) : ErrF K fI C := by
  unfold errB at h
  obtain ⟨a1, h⟩ := He.ba h
  obtain ⟨a2, h⟩ := He.ba h
  obtain ⟨a3, h⟩ := He.ba h
  obtain ⟨a4, h⟩ := He.ba h
  obtain ⟨a5, h⟩ := He.ba h
  obtain ⟨a6, h⟩ := He.ba h
  obtain ⟨a7, h⟩ := He.ba h
  obtain ⟨a8, h⟩ := He.ba h
  obtain ⟨a9, h⟩ := He.ba h
  obtain ⟨a10, a11⟩ := He.ba h
  unfold objB at ho
  obtain ⟨o1, ho⟩ := He.ba ho
  obtain ⟨o2, _⟩ := He.ba ho
  have X := xfB_ok a8
  exact ⟨⟨⟨oexB_ok a1, He.eqO_ok a2, of_decide_eq_true a3, of_decide_eq_true a4, a5⟩, He.eqO_ok a6, He.eqO_ok a7⟩, X, ⟨a9, X.ga, X.gg, of_decide_eq_true a3, He.eqO_ok a10, He.eqO_ok o1, of_decide_eq_true o2, of_decide_eq_true a11⟩⟩
/-! ### a def from the head's facts -/
theorem fun_of {K : PySem.W.Frag} {x qual : Str} {st : Stmt} {f : Addr} {fd : FuncData} (F : FunD K x qual (defArgs st) (defBody st) (defScope st) [] [] f fd) : Fun K x qual st f fd := by
  obtain ⟨⟨oc, od, dV, kV, doc, pm, an, cdv, ct, osl, e, lk, hc, hd, _⟩, kp⟩ := F
  have : dV = .none := by
    rcases hd with ⟨_, e⟩ | ⟨e, _⟩
    · exact e
    · exact absurd rfl e
  subst this
  exact ⟨⟨oc, od, kV, doc, pm, an, cdv, ct, osl, e, lk, hc⟩, kp⟩
theorem code_of {K : PySem.W.Frag} {x qual : Str} {st : Stmt} {p : He.Defn} {fd : FuncData} (F : Fun K x qual st (He.fAd K p) fd) : fd.code = .ref (He.codeOf K p) := by
  obtain ⟨oc, od, kV, doc, pm, an, cdv, ct, osl, rfl, lk, hc⟩ := F.ex
  obtain ⟨c, rfl⟩ := He.codeIn_ref hc
  rw [He.codeOf_eq lk rfl]
/-! ### the law -/
def spL (K : PySem.W.Frag) (cs : List (Addr × Addr)) : Sp := fun vs H Q _ => ∃ (a : Addr) (ns : List Int), vs = [.ref a] ∧ SqL K H a (ns.map V.int) ∧ ns.length ≤ 63 ∧ (∀ z ∈ ns, Builtin.Int.intBits z ≤ 1048576) ∧ (∀ p ∈ cs, H p.2 = some (.tbl #[])) ∧ ∀ H', Q (.bl true) H'
def unT (H : Hp) : Hp := fun b => match H b with
  | some (.tbl _) => none
  | o => o
theorem unT_sub {H : Hp} {b : Addr} {o : HO} (h : unT H b = some o) : H b = some o := by
  unfold unT at h
  split at h
  · cases h
  · exact h
theorem unT_at {H : Hp} {b : Addr} {o : HO} (h : H b = some o) (ht : ∀ ps, o ≠ .tbl ps) : unT H b = some o := by
  unfold unT
  rw [h]
  cases o <;> first | rfl | exact absurd rfl (ht _)
theorem law_ok {P : Program} {w : World} {K : PySem.W.Frag} {mg : Str → Option Value} {base : Heap} {T : List (Addr × Str)} {LC k : Nat} {f : Addr} {fd : FuncData} {cs : List (Addr × Addr)} {den : List D → Rt} (hA : FnA P w K mg base T LC k f fd ["script"] den)
    (hT : ∀ p ∈ T, p.1 ∈ cs.map (·.2)) (hden : ∀ ns : List Int, ns.length ≤ 63 → (∀ z ∈ ns, Builtin.Int.intBits z ≤ 1048576) → ∃ ps, den [.scr ns] = .ok (.bl true) ps) : FnOk P w K mg base (L2.CX P w) k f fd ["script"] (spL K cs) := by
  refine ⟨fun vs H Q E h => ?_, fun A outer s H args us vs Q E hr e0 hb r h => ?_⟩
  · obtain ⟨a, ns, rfl, _⟩ := h
    rfl
  · obtain ⟨a, ns, rfl, hS, hl, hz, hc, q⟩ := h
    obtain ⟨ps, e⟩ := hden ns hl hz
    refine hA.run ⟨K, mg, T, fun _ => none, fun _ => none, fun _ => false, [], []⟩ A outer s H args us [.ref a] Q E rfl rfl rfl hr e0 (fun f r z => by cases z) hb r ?_
    refine ⟨unT H, [.scr ns], [], ⟨fun b o z => unT_sub z, fun b ps z => ?_, ⟨fun p hp => ?_, fun p hp => (by cases hp)⟩⟩, fun b o z => (by cases z), ⟨.ref a, [], [], [], rfl, rfl, ⟨a, rfl, ?_, rfl⟩, rfl, rfl⟩, List.nodup_nil, ?_⟩
    · unfold unT at z
      split at z
      · cases z
      · rename_i h1
        exact h1 _ z
    · obtain ⟨p', hp', e'⟩ := List.mem_map.mp (hT p hp)
      refine LamX.TabS.nil ?_
      rw [← e']
      exact hc p' hp'
    · rcases hS with (h | ⟨o, h⟩) | h
      · exact .inl (.inl (unT_at h fun _ z => by cases z))
      · exact .inl (.inr ⟨o, unT_at h fun _ z => by cases z⟩)
      · exact .inr h
    · rw [e]
      intro v F' H' B B' go fin rr sl nd
      obtain ⟨rfl, _⟩ := rr
      exact q H'
theorem law_at {l : PySem.W.OpenLaw} {w : World} {K : PySem.W.Frag} {mg : Str → Option Value} {fa : Addr} {h : Heap} {T : List (Addr × Str)} {LC k : Nat} {fd : FuncData} {cs : List (Addr × Addr)} {den : List D → Rt} (hE : ∀ p ∈ cs, h.get? p.2 = some { cls := .none, data := .fields #[] }) (hO : ∀ p ∈ cs, K.lookup p.2 = none)
    (hH : ∀ p ∈ cs, PySem.W.CodeHd h p.1 p.2) (hb : ∀ (s : Shared) (u : Value), BindsTo s fd ⟨[u], []⟩ [("script", u)]) (hT : ∀ p ∈ T, p.1 ∈ cs.map (·.2))
    (hden : ∀ ns : List Int, ns.length ≤ 63 → (∀ z ∈ ns, Builtin.Int.intBits z ≤ 1048576) → ∃ ps, den [.scr ns] = .ok (.bl true) ps)
    (hA : ∀ base : Heap, K.In base → base.Ns mainGlobals mg → (∀ p ∈ cs, LamX.TabB base mg p.1 p.2) → FnA l.prog w K mg base T LC k fa fd ["script"] den) : LamX.LawAtS l w K (L2.CX l.prog w) k 63 "script" mg fa h :=
  ⟨fd, cs, spL K cs, hE, hO, hH, hb, fun H a ns hl hz hc hS => ⟨a, ns, rfl, hS, hl, hz, hc, fun _ => rfl⟩, fun base h1 h2 h3 => law_ok (hA base h1 h2 h3) hT hden⟩
end Y
end

section
set_option Elab.async false
set_option linter.all false
set_option maxRecDepth 100000
set_option maxHeartbeats 4000000
/-! Y14: comparisons as tests, chains. -/
namespace Y
open PySem PySem.Spec PyProof.Rows L2
section
variable {X : Cx} {c : Ctx} {a b e d : Expr} {f1 f2 f3 : Den Hdl} {pos : Pos}
theorem tt_lt (ha : Tr X c a f1) (hb : Tr X c b f2) : TrT X c (.Compare a [.Lt] [b] pos) (tst (bin ltD f1 f2)) := tt_cmp op_lt (iop_sound fun _ _ _ _ => rel_bl) ha hb
theorem tt_le (ha : Tr X c a f1) (hb : Tr X c b f2) : TrT X c (.Compare a [.LtE] [b] pos) (tst (bin leD f1 f2)) := tt_cmp op_le (iop_sound fun _ _ _ _ => rel_bl) ha hb
theorem tt_gt (ha : Tr X c a f1) (hb : Tr X c b f2) : TrT X c (.Compare a [.Gt] [b] pos) (tst (bin gtD f1 f2)) := tt_cmp op_gt (iop_sound fun _ _ _ _ => rel_bl) ha hb
theorem tt_ge (ha : Tr X c a f1) (hb : Tr X c b f2) : TrT X c (.Compare a [.GtE] [b] pos) (tst (bin geD f1 f2)) := tt_cmp op_ge (iop_sound fun _ _ _ _ => rel_bl) ha hb
theorem tt_eq (hK : c.K = X.K) (hu : X.A.units + 64 < cLine) (ha : Tr X c a f1) (hb : Tr X c b f2) : TrT X c (.Compare a [.Eq] [b] pos) (tst (bin eqD f1 f2)) :=
  tt_cmp (r := rEqA c.K) (by rw [hK]; exact (op_eq.or (op_eqD hu)).or (op_eqLen (by omega))) eq_sound ha hb
theorem tt_ne (hK : c.K = X.K) (hu : X.A.units + 64 < cLine) (ha : Tr X c a f1) (hb : Tr X c b f2) : TrT X c (.Compare a [.NotEq] [b] pos) (tst (bin neD f1 f2)) :=
  tt_cmp (r := rNeA c.K) (by rw [hK]; exact (op_ne.or (op_neD hu)).or (op_neLen (by omega))) ne_sound ha hb
theorem tt_isN (ha : Tr X c a f1) (hb : Tr X c b f2) : TrT X c (.Compare a [.Is] [b] pos) (tst (bin isND f1 f2)) := tt_cmp op_isN isN_sound ha hb
theorem tt_notN (ha : Tr X c a f1) (hb : Tr X c b f2) : TrT X c (.Compare a [.IsNot] [b] pos) (tst (bin notND f1 f2)) := tt_cmp op_notN notN_sound ha hb
/-- a <= b < d and the like -/
structure Ord1 (X : Cx) (c : Ctx) (op : CmpOp) (g : D → D → Option D) : Prop where
  ex : ∃ r : R2, OpR X (compareOp op) r ∧ OpS c r g
theorem o_lt : Ord1 X c .Lt ltD := ⟨_, op_lt, iop_sound fun _ _ _ _ => rel_bl⟩
theorem o_le : Ord1 X c .LtE leD := ⟨_, op_le, iop_sound fun _ _ _ _ => rel_bl⟩
theorem o_gt : Ord1 X c .Gt gtD := ⟨_, op_gt, iop_sound fun _ _ _ _ => rel_bl⟩
theorem o_ge : Ord1 X c .GtE geD := ⟨_, op_ge, iop_sound fun _ _ _ _ => rel_bl⟩
theorem t_chn {op op' : CmpOp} {g g' : D → D → Option D} (o1 : Ord1 X c op g) (o2 : Ord1 X c op' g') (ha : Tr X c a f1) (hb : Tr X c b f2) (hd : Tr X c d f3) (hm : lastMarks [op, op'] [b, d] = false := by with_unfolding_all rfl) : Tr X c (.Compare a [op, op'] [b, d] pos) (chn g g' f1 f2 f3) := by
  obtain ⟨r, h1, h2⟩ := o1.ex
  obtain ⟨r', h3, h4⟩ := o2.ex
  exact t_chain h1 h3 h2 h4 ha hb hd hm
theorem tt_chn {op op' : CmpOp} {g g' : D → D → Option D} (o1 : Ord1 X c op g) (o2 : Ord1 X c op' g') (ha : Tr X c a f1) (hb : Tr X c b f2) (hd : Tr X c d f3) (hm : lastMarks [op, op'] [b, d] = false := by with_unfolding_all rfl) : TrT X c (.Compare a [op, op'] [b, d] pos) (tst (chn g g' f1 f2 f3)) := by
  obtain ⟨r, h1, h2⟩ := o1.ex
  obtain ⟨r', h3, h4⟩ := o2.ex
  exact tt_chain h1 h3 h2 h4 ha hb hd hm
end
end Y
end

section
set_option Elab.async false
set_option linter.all false
set_option maxRecDepth 100000
set_option maxHeartbeats 4000000
/-! Y15: defs that no closure reaches; tables of defs with lambdas. -/
namespace Y
open PySem PySem.Spec PyProof.Rows L2
/-- handed nothing but plain data, it gives nothing but plain data -/
def nk0 (den : List D → Rt) : List D → Rt := fun ds => if D.nks ds then (match den ds with
  | .ok d ps => if d.nk && ps.all nkU then .ok d ps else .bad
  | .ex n d => if d.nk then .ex n d else .bad
  | .bad => .bad) else .bad
section
variable {P : Program} {w : World} {K : PySem.W.Frag} {mg : Str → Option Value} {base : Heap} {T T' : List (Addr × Str)} {LC k : Nat} {f : Addr} {fd : FuncData} {den : List D → Rt}
theorem FnY.at (h : T' = T) (G : FnY P w K mg base T LC k f den) : FnY P w K mg base T' LC k f den := by
  rw [h]
  exact G
/-- the same promise where no closure is in sight -/
theorem spY_none {c c' : Ctx} {vs : List V} {H : Hp} {Q : VK} {E : XK} (hK : c'.K = c.K) (hM : c'.mg = c.mg) (hF : c'.FB = c.FB) (hT : ∀ H, Tb c H ↔ Tb c' H) (h : spY c (nk0 den) vs H Q E) : spY c' den vs H Q E := by
  obtain ⟨F, ds, A, fin, hFB, rds, nd, hm⟩ := h
  unfold nk0 at hm
  by_cases hn : D.nks ds = true
  · rw [if_pos hn] at hm
    refine ⟨F, ds, A, ⟨fin.ex, fin.nt, (hT _).mp fin.tb⟩, by rw [hF]; exact hFB, Rels.ctx hK rds hn, nd, ?_⟩
    cases e : den ds with
    | bad => rw [e] at hm; exact hm
    | ex n d =>
      rw [e] at hm
      dsimp only at hm
      by_cases hd : d.nk = true
      · rw [if_pos hd] at hm
        intro cv dx F' H' go fin' x
        exact hm cv dx F' H' go ⟨fin'.ex, fin'.nt, (hT _).mpr fin'.tb⟩ (x.ctx hK.symm hM.symm hd)
      · rw [if_neg hd] at hm
        exact hm.elim
    | ok d ps =>
      rw [e] at hm
      dsimp only at hm
      by_cases hd : (d.nk && ps.all nkU) = true
      · rw [if_pos hd] at hm
        rw [Bool.and_eq_true] at hd
        intro v F' H' B B' go fin' rr sl nd'
        exact hm v F' H' B B' go ⟨fin'.ex, fin'.nt, (hT _).mpr fin'.tb⟩ (Rel.ctx hK.symm rr hd.1) (Slots.ctxN hK.symm sl hd.2) nd'
      · rw [if_neg hd] at hm
        exact hm.elim
  · rw [if_neg hn] at hm
    exact hm.elim
/-- THE RULE for a def without closure parameters -/
theorem fnA_of0 {x qual : Str} {st : Stmt} {N ps : List Str} {fx : Nat → Bool} {body : SDen} (Fn : Fun K x qual st f fd) (S : FnScope N ps (defScope st))
    (hbody : ∀ (c : Ctx) (A : Around) (outer : List Env) (s : Shared) (H : Hp) (E : XK), c.K = K → c.mg = mg → c.T = T → c.fx = fx → Room k (A.deeper (envOfC qual (defScope st) s.heap.objs.size f fd.code)) → c.G = (fun _ => none) →
      Tss (cxOf (L2.CX P w) P w K mg base N qual (defScope st) f fd.code A outer s H E) c (defBody st) body) : FnA P w K mg base T LC (k + 1) f fd ps (nk0 (fnD ps.length N.length fx body)) := by
  refine ⟨fun c0 A outer s H args us vs Q E hK hM hT hr e0 hG hbb r hsp => ?_⟩
  have hsp' : spY { c0 with G := fun _ => none } (fnD ps.length N.length fx body) vs H Q E := spY_none (c := c0) (c' := { c0 with G := fun _ => none }) rfl rfl rfl (fun H => ⟨fun h => ⟨h.tabs, h.code⟩, fun h => ⟨h.tabs, h.code⟩⟩) hsp
  exact fn_core (LC := LC) Fn S { c0 with G := fun _ => none } (fun c A outer s H E h1 h2 h3 h4 h5 h6 _ => hbody c A outer s H E h2 h3 h4 h5 h6 h1) A outer s H args us vs Q E hK hM hT hr e0 (fun f r z => by cases z) hbb r hsp'
/-- a def's promise, whatever its denotation is written as -/
theorem FnA.y' {ps : List Str} (h : FnA P w K mg base T LC k f fd ps den) (hl : ∀ ds r, den ds = r → ds.length ≠ ps.length → r = .bad) (hb : Binds K fd ps []) : FnY P w K mg base T LC k f den := by
  refine ⟨fun c A outer s H us vs Q E hK hM hT hr e0 hG r hsp => ?_⟩
  have KX : K.In s.heap := e0.mod.kin.keeps fun b o e => (e0.bs b o e).1
  have lv : vs.length = ps.length := by
    obtain ⟨F, ds, A0, fin, hFB, rds, nd, hm⟩ := hsp
    rw [rds.length]
    by_cases z : ds.length = ps.length
    · exact z
    · rw [hl ds _ rfl z] at hm
      exact hm.elim
  have hl : us.length = ps.length := by rw [← r.length]; exact lv
  have hbb := hb s us KX (by rw [List.append_nil]; exact hl)
  rw [List.append_nil] at hbb
  exact h.run c A outer s H ⟨us, []⟩ us vs Q E hK hM hT hr e0 hG hbb r hsp
theorem FnA.y0 {ps : List Str} {fx : Nat → Bool} {n : Nat} {body : SDen} (h : FnA P w K mg base T LC k f fd ps (nk0 (fnD ps.length n fx body))) (hb : Binds K fd ps []) : FnY P w K mg base T LC k f (nk0 (fnD ps.length n fx body)) :=
  h.y' (fun ds r e hn => by
    subst e
    unfold nk0 fnD
    rw [if_neg hn]
    split <;> rfl) hb
/-! ### defs that hold lambdas -/
def qtab (K : PySem.W.Frag) (p : He.Defn) : Addr × Str := ((He.cT K p).2, p.1 ++ ".<locals>." ++ "<lambda>")
theorem qtab_mem {tf : List He.Defn} {p : He.Defn} (h : p ∈ tf) : ((He.cT K p).2, p.1 ++ ".<locals>." ++ "<lambda>") ∈ tf.map (qtab K) := List.mem_map.mpr ⟨p, h, rfl⟩
theorem qtab_one : ∀ {tf : List He.Defn} {p : He.Defn}, (tf.map fun p => (He.cT K p).2).Nodup → p ∈ tf → ∀ q ∈ tf.map (qtab K), q.1 = (He.cT K p).2 → q.2 = p.1 ++ ".<locals>." ++ "<lambda>"
  | [], p, nd, hp, q, hq, e => by cases hp
  | a :: tf, p, nd, hp, q, hq, e => by
    rw [List.map_cons, List.nodup_cons] at nd
    have one : ∀ {x y : He.Defn}, x ∈ tf → (He.cT K x).2 = (He.cT K a).2 → False := fun {x y} hx e => nd.1 (List.mem_map.mpr ⟨x, hx, e⟩)
    rw [List.map_cons] at hq
    rcases List.mem_cons.mp hp with rfl | hp'
    · rcases List.mem_cons.mp hq with rfl | hq
      · rfl
      · obtain ⟨x, hx, rfl⟩ := List.mem_map.mp hq
        exact (one (y := x) hx e).elim
    · rcases List.mem_cons.mp hq with rfl | hq
      · exact (one (y := p) hp' e.symm).elim
      · exact qtab_one nd.2 hp' q hq e
end
end Y
end

section
set_option Elab.async false
set_option linter.all false
set_option maxRecDepth 100000
set_option maxHeartbeats 400000
namespace Law
open PySem PySem.Spec PyProof.Rows L2 Y
def top (i : Nat) : Stmt := PySem.Challenge.pw_liesborne_k04_inverses.main.body.getD i (.Pass ⟨0, 0, 0, 0⟩)
abbrev s_is_residue : Stmt := top 8
abbrev s_wrong_residues : Stmt := top 9
abbrev s_power : Stmt := top 10
abbrev s_inverse_of : Stmt := top 11
abbrev s_trimmed : Stmt := top 12
abbrev s_product_of : Stmt := top 13
abbrev s_quotient_of : Stmt := top 14
abbrev s_made_poly : Stmt := top 15
abbrev s_inverse : Stmt := top 16
abbrev s_times : Stmt := top 17
abbrev s_quotient : Stmt := top 18
abbrev s_law_pool : Stmt := top 20
abbrev s_law_take : Stmt := top 21
abbrev s_law_one : Stmt := top 22
abbrev s_law_yv_is_whole : Stmt := top 23
abbrev s_law_yv_is_in : Stmt := top 24
abbrev s_law_yv_same : Stmt := top 25
abbrev s_law_yv_is_residue : Stmt := top 26
abbrev s_law_yv_residue : Stmt := top 27
abbrev s_law_c4_heard : Stmt := top 28
abbrev s_law_c4_tells : Stmt := top 29
abbrev s_law_c4_is_inverse : Stmt := top 30
abbrev s_law_c4_told_right : Stmt := top 31
abbrev s_law_c4_other : Stmt := top 32
abbrev s_law_c4_row : Stmt := top 33
abbrev s_law_c4_refused_right : Stmt := top 34
abbrev s_law_c4_hand_right : Stmt := top 35
abbrev s_law : Stmt := top 36
abbrev s_Rinit : Stmt := inClass (top 1) 0
/-! ### what each def computes -/
def errs : List Str := ["BadResidue", "BadPoly", "Zero"]
def subE (n : Str) : Option Bool := if n ∈ errs then some true else none
abbrev N_law_c4_heard : List Str := ["call", "refused_one"]
def fx_law_c4_heard : Nat → Bool := fun i => i == 0
def b_law_c4_heard : SDen :=
    sTry subE 1 (sRet (dsp .tup (acons (cst (.str "told")) (acons (cloD 0) (anil))))) (fun n dD => sRet (dsp .tup (acons (ifE (tst (cst (.bl (decide (n = "BadResidue"))))) (cst (.str "BadResidue")) (cst (.str "another"))) (acons (cst dD) (anil)))))
def d_law_c4_heard : List D → Rt := fnD 1 2 fx_law_c4_heard b_law_c4_heard
abbrev N_law_yv_is_whole : List Str := ["thing"]
def fx_law_yv_is_whole : Nat → Bool := fun i => i == 0
def b_law_yv_is_whole : SDen :=
    sRet (andV (uno (isiD "int") (nm 0)) (notV (uno (isiD "bool") (nm 0))))
def d_law_yv_is_whole : List D → Rt := nk0 (fnD 1 1 fx_law_yv_is_whole b_law_yv_is_whole)
abbrev N_law_yv_same : List Str := ["heard", "owed", "todo", "one", "due", "is_so", "at"]
def fx_law_yv_same : Nat → Bool := fun i => i == 0 || i == 1
def B_law_yv_same (g_law_yv_is_whole : List D → Rt) : SDen :=
    sq (sSet 2 (dsp (.lst true) (acons (dsp .tup (acons (vl 0) (acons (vl 1) (anil)))) (anil))))
    (sq (sWhile 1000 (tst (bin neD (nm 2) (dsp (.lst true) (anil)))) (sq (sAsg (runL popL 2 []) (gT 2 (gC (gN 3) (gC (gN 4) (gNo)))))
    (sq (sIf (tst (bin isND (nm 4) (cst .non))) (sSet 5 (bin isND (nm 3) (cst .non))) (sIf (tst (uno (isiD "bool") (nm 4))) (sSet 5 (andV (uno (isiD "bool") (nm 3)) (bin eqD (nm 3) (nm 4)))) (sIf (tst (uno (isiD "int") (nm 4))) (sSet 5 (andV (callD g_law_yv_is_whole (acons (nm 3) (anil))) (bin eqD (nm 3) (nm 4)))) (sIf (tst (uno (isiD "str") (nm 4))) (sSet 5 (andV (uno (isiD "str") (nm 3)) (bin eqD (nm 3) (nm 4)))) (sq (sSet 5 (ifE (tst (uno (isiD "tuple") (nm 4))) (uno (isiD "tuple") (nm 3)) (uno (isiD "list") (nm 3))))
    (sq (sSet 5 (andV (vl 5) (bin eqD (uno lenD (nm 3)) (uno lenD (nm 4)))))
    (sExpr (mtD extL 2 (acons (ifE (tst (nm 5)) (lcE (rgS1 (uno lenD (nm 4))) (gN 6) (yesT) (dsp .tup (acons (bin ixD (nm 3) (nm 6)) (acons (bin ixD (nm 4) (nm 6)) (anil)))) [6]) (dsp (.lst true) (anil))) (anil))))))))))
    (sIf (notT (tst (nm 5))) (sRet (cst (.bl false))) (sNil)))))
    (sRet (cst (.bl true))))
def b_law_yv_same : SDen := B_law_yv_same d_law_yv_is_whole
def d_law_yv_same : List D → Rt := nk0 (fnD 2 7 fx_law_yv_same b_law_yv_same)
abbrev N_law_c4_tells : List Str := ["call", "owed"]
def fx_law_c4_tells : Nat → Bool := fun i => i == 0 || i == 1
def B_law_c4_tells (g_law_c4_heard g_law_yv_same : List D → Rt) : SDen :=
    sRet (callD g_law_yv_same (acons (callD g_law_c4_heard (acons (nm 0) (anil))) (acons (dsp .tup (acons (cst (.str "told")) (acons (vl 1) (anil)))) (anil))))
def b_law_c4_tells : SDen := B_law_c4_tells d_law_c4_heard d_law_yv_same
def d_law_c4_tells : List D → Rt := fnD 2 2 fx_law_c4_tells b_law_c4_tells
abbrev N_power : List Str := ["a", "e", "found"]
def fx_power : Nat → Bool := fun i => false
def b_power : SDen :=
    sq (sSet 2 (cst (.int 1)))
    (sq (sWhile 1000 (tst (bin gtD (nm 1) (cst (.int 0)))) (sq (sSet 2 (ifE (tst (bin eqD (bin modD (nm 1) (cst (.int 2))) (cst (.int 1)))) (bin modD (bin mulD (nm 2) (nm 0)) (cst (.int 2147483647))) (vl 2)))
    (sPar 0 1 (acons (bin modD (bin mulD (nm 0) (nm 0)) (cst (.int 2147483647))) (acons (bin fdivD (nm 1) (cst (.int 2))) (anil))))))
    (sRet (nm 2)))
def d_power : List D → Rt := nk0 (fnD 2 3 fx_power b_power)
abbrev N_inverse_of : List Str := ["a"]
def fx_inverse_of : Nat → Bool := fun i => i == 0
def B_inverse_of (g_power : List D → Rt) : SDen :=
    sRet (callD g_power (acons (nm 0) (acons (bin subD (cst (.int 2147483647)) (cst (.int 2))) (anil))))
def b_inverse_of : SDen := B_inverse_of d_power
def d_inverse_of : List D → Rt := nk0 (fnD 1 1 fx_inverse_of b_inverse_of)
abbrev N_is_residue : List Str := ["thing"]
def fx_is_residue : Nat → Bool := fun i => i == 0
def b_is_residue : SDen :=
    sRet (andV (uno (isiD "int") (nm 0)) (andV (notV (uno (isiD "bool") (nm 0))) (chn leD ltD (cst (.int 0)) (nm 0) (cst (.int 2147483647)))))
def d_is_residue : List D → Rt := nk0 (fnD 1 1 fx_is_residue b_is_residue)
abbrev N_inverse : List Str := ["a"]
def fx_inverse : Nat → Bool := fun i => i == 0
def B_inverse (g_inverse_of g_is_residue : List D → Rt) : SDen :=
    sq (sIf (orT (notT (tst (callD g_is_residue (acons (nm 0) (anil))))) (tst (bin eqD (nm 0) (cst (.int 0))))) (sRaise "BadResidue" (acons (vl 0) (anil))) (sNil))
    (sRet (callD g_inverse_of (acons (nm 0) (anil))))
def b_inverse : SDen := B_inverse d_inverse_of d_is_residue
def d_inverse : List D → Rt := nk0 (fnD 1 1 fx_inverse b_inverse)
abbrev N_law_c4_hand_right : List Str := ["rows_now", "a", "owed"]
def fx_law_c4_hand_right : Nat → Bool := fun i => false
def B_law_c4_hand_right (g_inverse g_law_c4_tells : List D → Rt) : SDen :=
    sq (sSet 0 (dsp (.lst true) (acons (dsp .tup (acons (cst (.int 1)) (acons (cst (.int 1)) (anil)))) (acons (dsp .tup (acons (cst (.int 2147483646)) (acons (cst (.int 2147483646)) (anil)))) (acons (dsp .tup (acons (cst (.int 2)) (acons (cst (.int 1073741824)) (anil)))) (acons (dsp .tup (acons (cst (.int 1073741824)) (acons (cst (.int 2)) (anil)))) (acons (dsp .tup (acons (cst (.int 3)) (acons (cst (.int 1431655765)) (anil)))) (acons (dsp .tup (acons (cst (.int 1431655765)) (acons (cst (.int 3)) (anil)))) (anil)))))))))
    (sq (sFor (seqS (bin addD (nm 0) (dsp (.lst true) (acons (dsp .tup (acons (cst (.int 2147483645)) (acons (cst (.int 1073741823)) (anil)))) (acons (dsp .tup (acons (cst (.int 1073741823)) (acons (cst (.int 2147483645)) (anil)))) (anil)))))) (gT 2 (gC (gN 1) (gC (gN 2) (gNo)))) (sIf (notT (tst (lamD g_law_c4_tells (callD g_inverse (acons (nm 1) (anil))) [1] (acons (nm 2) (anil))))) (sRet (cst (.bl false))) (sNil)))
    (sRet (cst (.bl true))))
def b_law_c4_hand_right : SDen := B_law_c4_hand_right d_inverse d_law_c4_tells
def d_law_c4_hand_right : List D → Rt := nk0 (fnD 0 3 fx_law_c4_hand_right b_law_c4_hand_right)
abbrev N_law_take : List Str := ["jar", "many", "made_now"]
def fx_law_take : Nat → Bool := fun i => i == 0 || i == 1
def b_law_take : SDen :=
    sq (sIf (tst (bin gtD (bin ixD (nm 0) (cst (.int 0))) (cst (.int 0)))) (sq (sSet 2 (bin modD (uno intD (bin ixD (nm 0) (cst (.int 0)))) (nm 1)))
    (sq (sSto 0 (cst (.int 0)) (bin fdivD (bin ixD (nm 0) (cst (.int 0))) (nm 1)))
    (sRet (nm 2)))) (sNil))
    (sq (sSto 0 (cst (.int 2)) (bin addD (bin ixD (nm 0) (cst (.int 2))) (cst (.int 1))))
    (sq (sSto 0 (cst (.int 1)) (bin modD (uno intD (bin addD (bin addD (bin mulD (bin ixD (nm 0) (cst (.int 1))) (cst (.int 39373))) (bin mulD (cst (.int 7919)) (bin ixD (nm 0) (cst (.int 2))))) (cst (.int 7)))) (cst (.int 2147483647))))
    (sRet (bin modD (uno intD (bin fdivD (bin modD (uno intD (bin mulD (bin ixD (nm 0) (cst (.int 1))) (bin ixD (nm 0) (cst (.int 1))))) (cst (.int 2147483629))) (cst (.int 32)))) (nm 1)))))
def d_law_take : List D → Rt := nk0 (fnD 2 3 fx_law_take b_law_take)
abbrev N_law_c4_refused_right : List Str := ["jar", "low", "odd"]
def fx_law_c4_refused_right : Nat → Bool := fun i => i == 0
def B_law_c4_refused_right (g_inverse g_law_c4_heard g_law_take g_law_yv_same : List D → Rt) : SDen :=
    sq (sSet 1 (callD g_law_take (acons (nm 0) (acons (cst (.int 1000)) (anil)))))
    (sq (sFor (seqS (dsp (.lst true) (acons (cst (.int 0)) (acons (cst (.int 2147483647)) (acons (bin addD (cst (.int 2147483648)) (nm 1)) (acons (uno negD (cst (.int 1))) (acons (bin subD (uno negD (cst (.int 1))) (nm 1)) (acons (cst .non) (acons (cst (.bl true)) (acons (cst (.bl false)) (acons (cst (.str "1")) (acons (dsp .tup (acons (cst (.int 1)) (anil))) (acons (dsp (.lst true) (acons (cst (.int 1)) (anil))) (acons (dsp .tup (anil)) (acons (bin powD (cst (.int 10)) (cst (.int 40))) (anil)))))))))))))))) (gN 2) (sIf (notT (tst (callD g_law_yv_same (acons (lamD g_law_c4_heard (callD g_inverse (acons (nm 2) (anil))) [2] (anil)) (acons (dsp .tup (acons (cst (.str "BadResidue")) (acons (vl 2) (anil)))) (anil)))))) (sRet (cst (.bl false))) (sNil)))
    (sRet (cst (.bl true))))
def b_law_c4_refused_right : SDen := B_law_c4_refused_right d_inverse d_law_c4_heard d_law_take d_law_yv_same
def d_law_c4_refused_right : List D → Rt := nk0 (fnD 1 3 fx_law_c4_refused_right b_law_c4_refused_right)
abbrev N_law_yv_is_in : List Str := ["thing", "low", "high"]
def fx_law_yv_is_in : Nat → Bool := fun i => i == 0 || i == 1 || i == 2
def B_law_yv_is_in (g_law_yv_is_whole : List D → Rt) : SDen :=
    sRet (andV (callD g_law_yv_is_whole (acons (nm 0) (anil))) (chn leD leD (nm 1) (nm 0) (nm 2)))
def b_law_yv_is_in : SDen := B_law_yv_is_in d_law_yv_is_whole
def d_law_yv_is_in : List D → Rt := nk0 (fnD 3 3 fx_law_yv_is_in b_law_yv_is_in)
abbrev N_law_yv_is_residue : List Str := ["thing"]
def fx_law_yv_is_residue : Nat → Bool := fun i => i == 0
def B_law_yv_is_residue (g_law_yv_is_in : List D → Rt) : SDen :=
    sRet (callD g_law_yv_is_in (acons (nm 0) (acons (cst (.int 0)) (acons (cst (.int 2147483646)) (anil)))))
def b_law_yv_is_residue : SDen := B_law_yv_is_residue d_law_yv_is_in
def d_law_yv_is_residue : List D → Rt := nk0 (fnD 1 1 fx_law_yv_is_residue b_law_yv_is_residue)
abbrev N_law_c4_is_inverse : List Str := ["a", "thing"]
def fx_law_c4_is_inverse : Nat → Bool := fun i => i == 0 || i == 1
def B_law_c4_is_inverse (g_law_yv_is_residue : List D → Rt) : SDen :=
    sRet (andV (callD g_law_yv_is_residue (acons (nm 1) (anil))) (bin eqD (bin modD (uno intD (bin mulD (nm 0) (nm 1))) (cst (.int 2147483647))) (cst (.int 1))))
def b_law_c4_is_inverse : SDen := B_law_c4_is_inverse d_law_yv_is_residue
def d_law_c4_is_inverse : List D → Rt := nk0 (fnD 2 2 fx_law_c4_is_inverse b_law_c4_is_inverse)
abbrev N_law_c4_other : List Str := ["b"]
def fx_law_c4_other : Nat → Bool := fun i => i == 0
def B_law_c4_other (g_inverse g_law_c4_heard : List D → Rt) : SDen :=
    sRet (lamD g_law_c4_heard (callD g_inverse (acons (nm 0) (anil))) [0] (anil))
def b_law_c4_other : SDen := B_law_c4_other d_inverse d_law_c4_heard
def d_law_c4_other : List D → Rt := nk0 (fnD 1 1 fx_law_c4_other b_law_c4_other)
abbrev N_law_c4_row : List Str := ["b", "by", "much"]
def fx_law_c4_row : Nat → Bool := fun i => i == 0 || i == 1
def b_law_c4_row : SDen :=
    sq (sSet 2 (bin modD (uno intD (bin mulD (nm 0) (nm 1))) (cst (.int 2147483647))))
    (sRet (dsp .tup (acons (vl 2) (acons (cst (.int 0)) (acons (vl 2) (anil))))))
def d_law_c4_row : List D → Rt := nk0 (fnD 2 3 fx_law_c4_row b_law_c4_row)
abbrev N_wrong_residues : List Str := ["thing", "many", "at", "one"]
def fx_wrong_residues : Nat → Bool := fun i => i == 0 || i == 1
def B_wrong_residues (g_is_residue : List D → Rt) : SDen :=
    sq (sIf (orT (notT (tst (uno (isiD "tuple") (nm 0)))) (tst (bin neD (uno lenD (nm 0)) (nm 1)))) (sRet (uno negD (cst (.int 1)))) (sNil))
    (sq (sFor (enumS (vl 0)) (gT 2 (gC (gN 2) (gC (gN 3) (gNo)))) (sIf (notT (tst (callD g_is_residue (acons (nm 3) (anil))))) (sRet (nm 2)) (sNil)))
    (sRet (cst .non)))
def b_wrong_residues : SDen := B_wrong_residues d_is_residue
def d_wrong_residues : List D → Rt := nk0 (fnD 2 4 fx_wrong_residues b_wrong_residues)
abbrev N_made_poly : List Str := ["thing", "wrong"]
def fx_made_poly : Nat → Bool := fun i => i == 0
def B_made_poly (g_wrong_residues : List D → Rt) : SDen :=
    sq (sIf (orT (notT (tst (uno (isiD "tuple") (nm 0)))) (tst (bin gtD (uno lenD (nm 0)) (cst (.int 40))))) (sRaise "BadPoly" (acons (uno negD (cst (.int 1))) (anil))) (sNil))
    (sq (sSet 1 (callD g_wrong_residues (acons (nm 0) (acons (uno lenD (nm 0)) (anil)))))
    (sq (sIf (tst (bin notND (nm 1) (cst .non))) (sRaise "BadPoly" (acons (vl 1) (anil))) (sNil))
    (sRet (nm 0))))
def b_made_poly : SDen := B_made_poly d_wrong_residues
def d_made_poly : List D → Rt := nk0 (fnD 1 2 fx_made_poly b_made_poly)
abbrev N_trimmed : List Str := ["poly", "many"]
def fx_trimmed : Nat → Bool := fun i => i == 0
def b_trimmed : SDen :=
    sq (sSet 1 (uno lenD (nm 0)))
    (sq (sWhile 1000 (andT (tst (bin gtD (nm 1) (cst (.int 0)))) (tst (bin eqD (bin ixD (nm 0) (bin subD (nm 1) (cst (.int 1)))) (cst (.int 0))))) (sSet 1 (bin subD (nm 1) (cst (.int 1)))))
    (sRet (uno listD (slc (nm 0) (pn) (pso (nm 1))))))
def d_trimmed : List D → Rt := nk0 (fnD 1 2 fx_trimmed b_trimmed)
abbrev N_quotient_of : List Str := ["one", "two", "rest", "by", "first", "found", "at", "times", "to", "number"]
def fx_quotient_of : Nat → Bool := fun i => i == 0 || i == 1
def B_quotient_of (g_inverse_of g_trimmed : List D → Rt) : SDen :=
    sq (sPar 2 3 (acons (callD g_trimmed (acons (nm 0) (anil))) (acons (callD g_trimmed (acons (nm 1) (anil))) (anil))))
    (sq (sPar 4 5 (acons (callD g_inverse_of (acons (bin ixD (nm 3) (uno negD (cst (.int 1)))) (anil))) (acons (bin mulD (dsp (.lst true) (acons (cst (.int 0)) (anil))) (bin max2D (cst (.int 0)) (bin addD (bin subD (uno lenD (nm 2)) (uno lenD (nm 3))) (cst (.int 1))))) (anil))))
    (sq (sFor (rgS3 (bin subD (uno lenD (nm 5)) (cst (.int 1))) (uno negD (cst (.int 1)))) (gN 6) (sq (sSet 7 (bin modD (bin mulD (bin ixD (nm 2) (bin subD (bin addD (nm 6) (uno lenD (nm 3))) (cst (.int 1)))) (nm 4)) (cst (.int 2147483647))))
    (sq (sSto 5 (nm 6) (vl 7))
    (sFor (enumS (vl 3)) (gT 2 (gC (gN 8) (gC (gN 9) (gNo)))) (sSto 2 (bin addD (nm 6) (nm 8)) (bin modD (bin subD (bin ixD (nm 2) (bin addD (nm 6) (nm 8))) (bin mulD (nm 7) (nm 9))) (cst (.int 2147483647))))))))
    (sRet (ifE (tst (bin eqD (callD g_trimmed (acons (nm 2) (anil))) (dsp (.lst true) (anil)))) (nm 5) (cst .non)))))
def b_quotient_of : SDen := B_quotient_of d_inverse_of d_trimmed
def d_quotient_of : List D → Rt := nk0 (fnD 2 10 fx_quotient_of b_quotient_of)
abbrev N_quotient : List Str := ["one", "two", "found"]
def fx_quotient : Nat → Bool := fun i => i == 0 || i == 1
def B_quotient (g_made_poly g_quotient_of g_trimmed : List D → Rt) : SDen :=
    sq (sExpr (callD g_made_poly (acons (nm 0) (anil))))
    (sq (sIf (tst (bin eqD (callD g_trimmed (acons (callD g_made_poly (acons (nm 1) (anil))) (anil))) (dsp (.lst true) (anil)))) (sRaise "Zero" (acons (vl 1) (anil))) (sNil))
    (sq (sSet 2 (callD g_quotient_of (acons (nm 0) (acons (nm 1) (anil)))))
    (sRet (ifE (tst (bin isND (nm 2) (cst .non))) (cst .non) (uno tupleD (nm 2))))))
def b_quotient : SDen := B_quotient d_made_poly d_quotient_of d_trimmed
def d_quotient : List D → Rt := nk0 (fnD 2 3 fx_quotient b_quotient)
abbrev N_product_of : List Str := ["one", "two", "found", "at", "a", "to", "b"]
def fx_product_of : Nat → Bool := fun i => i == 0 || i == 1
def b_product_of : SDen :=
    sq (sIf (orT (tst (bin eqD (uno lenD (nm 0)) (cst (.int 0)))) (tst (bin eqD (uno lenD (nm 1)) (cst (.int 0))))) (sRet (dsp (.lst true) (anil))) (sNil))
    (sq (sSet 2 (bin mulD (dsp (.lst true) (acons (cst (.int 0)) (anil))) (bin subD (bin addD (uno lenD (nm 0)) (uno lenD (nm 1))) (cst (.int 1)))))
    (sq (sFor (enumS (vl 0)) (gT 2 (gC (gN 3) (gC (gN 4) (gNo)))) (sIf (tst (bin neD (nm 4) (cst (.int 0)))) (sFor (enumS (vl 1)) (gT 2 (gC (gN 5) (gC (gN 6) (gNo)))) (sSto 2 (bin addD (nm 3) (nm 5)) (bin modD (bin addD (bin ixD (nm 2) (bin addD (nm 3) (nm 5))) (bin mulD (nm 4) (nm 6))) (cst (.int 2147483647))))) (sNil)))
    (sRet (nm 2))))
def d_product_of : List D → Rt := nk0 (fnD 2 7 fx_product_of b_product_of)
abbrev N_times : List Str := ["one", "two"]
def fx_times : Nat → Bool := fun i => i == 0 || i == 1
def B_times (g_made_poly g_product_of : List D → Rt) : SDen :=
    sq (sExpr (callD g_made_poly (acons (nm 0) (anil))))
    (sRet (uno tupleD (callD g_product_of (acons (nm 0) (acons (callD g_made_poly (acons (nm 1) (anil))) (anil))))))
def b_times : SDen := B_times d_made_poly d_product_of
def d_times : List D → Rt := nk0 (fnD 2 2 fx_times b_times)
abbrev N_law_c4_told_right : List Str := ["a", "b", "heard", "other", "both"]
def fx_law_c4_told_right : Nat → Bool := fun i => i == 0 || i == 1
def B_law_c4_told_right (g_inverse g_law_c4_heard g_law_c4_is_inverse g_law_c4_other g_law_c4_row g_law_c4_tells g_quotient g_times : List D → Rt) : SDen :=
    sq (sAsg (dsp .tup (acons (lamD g_law_c4_heard (callD g_inverse (acons (nm 0) (anil))) [0] (anil)) (acons (callD g_law_c4_other (acons (nm 1) (anil))) (anil)))) (gT 2 (gC (gN 2) (gC (gN 3) (gNo)))))
    (sq (sIf (orT (tst (bin neD (bin ixD (nm 2) (cst (.int 0))) (cst (.str "told")))) (notT (tst (callD g_law_c4_is_inverse (acons (nm 0) (acons (bin ixD (nm 2) (cst (.int 1))) (anil))))))) (sRet (cst (.bl false))) (sNil))
    (sq (sIf (orT (tst (bin neD (bin ixD (nm 3) (cst (.int 0))) (cst (.str "told")))) (notT (tst (callD g_law_c4_is_inverse (acons (nm 1) (acons (bin ixD (nm 3) (cst (.int 1))) (anil))))))) (sRet (cst (.bl false))) (sNil))
    (sq (sIf (notT (tst (lamD g_law_c4_tells (callD g_inverse (acons (bin ixD (nm 2) (cst (.int 1))) (anil))) [2] (acons (nm 0) (anil))))) (sRet (cst (.bl false))) (sNil))
    (sq (sSet 4 (bin modD (uno intD (bin mulD (bin ixD (nm 2) (cst (.int 1))) (bin ixD (nm 3) (cst (.int 1))))) (cst (.int 2147483647))))
    (sq (sIf (notT (tst (lamD g_law_c4_tells (callD g_inverse (acons (bin modD (uno intD (bin mulD (nm 0) (nm 1))) (cst (.int 2147483647))) (anil))) [0, 1] (acons (nm 4) (anil))))) (sRet (cst (.bl false))) (sNil))
    (sq (sIf (notT (tst (lamD g_law_c4_tells (callD g_inverse (acons (bin subD (cst (.int 2147483647)) (nm 0)) (anil))) [0] (acons (bin subD (cst (.int 2147483647)) (bin ixD (nm 2) (cst (.int 1)))) (anil))))) (sRet (cst (.bl false))) (sNil))
    (sq (sIf (notT (tst (lamD g_law_c4_tells (callD g_quotient (acons (dsp .tup (acons (cst (.int 1)) (anil))) (acons (dsp .tup (acons (vl 0) (anil))) (anil)))) [0] (acons (dsp .tup (acons (bin ixD (nm 2) (cst (.int 1))) (anil))) (anil))))) (sRet (cst (.bl false))) (sNil))
    (sq (sIf (notT (tst (lamD g_law_c4_tells (callD g_quotient (acons (dsp .tup (acons (vl 1) (acons (cst (.int 0)) (acons (vl 1) (anil))))) (acons (dsp .tup (acons (vl 0) (anil))) (anil)))) [0, 1] (acons (callD g_law_c4_row (acons (nm 1) (acons (bin ixD (nm 2) (cst (.int 1))) (anil)))) (anil))))) (sRet (cst (.bl false))) (sNil))
    (sRet (lamD g_law_c4_tells (callD g_times (acons (dsp .tup (acons (vl 0) (anil))) (acons (dsp .tup (acons (bin ixD (nm 2) (cst (.int 1))) (anil))) (anil)))) [0, 2] (acons (dsp .tup (acons (cst (.int 1)) (anil))) (anil))))))))))))
def b_law_c4_told_right : SDen := B_law_c4_told_right d_inverse d_law_c4_heard d_law_c4_is_inverse d_law_c4_other d_law_c4_row d_law_c4_tells d_quotient d_times
def d_law_c4_told_right : List D → Rt := nk0 (fnD 2 5 fx_law_c4_told_right b_law_c4_told_right)
abbrev N_law_pool : List Str := ["script", "digits", "stirred", "at", "cell"]
def fx_law_pool : Nat → Bool := fun i => i == 0
def b_law_pool : SDen :=
    sq (sAsg (dsp .tup (acons (cst (.int 0)) (acons (cst (.int 7)) (anil)))) (gT 2 (gC (gN 1) (gC (gN 2) (gNo)))))
    (sq (sFor (rgS1 (uno lenD (nm 0))) (gN 3) (sq (sSet 4 (uno intD (bin max2D (bin ixD (nm 0) (nm 3)) (bin subD (uno negD (cst (.int 1))) (bin ixD (nm 0) (nm 3))))))
    (sq (sSet 2 (bin modD (uno intD (bin addD (bin addD (bin mulD (nm 2) (cst (.int 48271))) (bin modD (nm 4) (cst (.int 2147483629)))) (cst (.int 11)))) (cst (.int 2147483647))))
    (sSet 1 (ifE (andT (tst (bin geD (nm 4) (bin powD (cst (.int 10)) (cst (.int 12))))) (tst (bin ltD (nm 1) (bin powD (cst (.int 10)) (cst (.int 60)))))) (uno intD (bin addD (bin mulD (nm 1) (bin powD (cst (.int 10)) (cst (.int 60)))) (bin modD (nm 4) (bin powD (cst (.int 10)) (cst (.int 60)))))) (vl 1))))))
    (sRet (dsp (.lst true) (acons (vl 1) (acons (vl 2) (acons (cst (.int 0)) (anil)))))))
def d_law_pool : List D → Rt := nk0 (fnD 1 5 fx_law_pool b_law_pool)
abbrev N_law_one : List Str := ["jar", "things"]
def fx_law_one : Nat → Bool := fun i => i == 0 || i == 1
def B_law_one (g_law_take : List D → Rt) : SDen :=
    sRet (bin ixD (nm 1) (callD g_law_take (acons (nm 0) (acons (uno lenD (nm 1)) (anil)))))
def b_law_one : SDen := B_law_one d_law_take
def d_law_one : List D → Rt := nk0 (fnD 2 2 fx_law_one b_law_one)
abbrev N_law_yv_residue : List Str := ["jar", "low", "some"]
def fx_law_yv_residue : Nat → Bool := fun i => i == 0
def B_law_yv_residue (g_law_one g_law_take : List D → Rt) : SDen :=
    sq (sSet 1 (callD g_law_take (acons (nm 0) (acons (cst (.int 65536)) (anil)))))
    (sq (sSet 2 (dsp (.lst true) (acons (cst (.int 0)) (acons (cst (.int 1)) (acons (cst (.int 2)) (acons (cst (.int 3)) (acons (cst (.int 7)) (acons (cst (.int 2147483646)) (acons (cst (.int 2147483645)) (acons (cst (.int 1073741823)) (acons (cst (.int 1073741824)) (acons (vl 1) (acons (bin subD (cst (.int 2147483646)) (nm 1)) (anil))))))))))))))
    (sRet (callD g_law_one (acons (nm 0) (acons (bin addD (nm 2) (bin mulD (dsp (.lst true) (acons (bin modD (uno intD (bin addD (bin mulD (nm 1) (cst (.int 32768))) (callD g_law_take (acons (nm 0) (acons (cst (.int 32768)) (anil)))))) (cst (.int 2147483647))) (anil))) (cst (.int 3)))) (anil))))))
def b_law_yv_residue : SDen := B_law_yv_residue d_law_one d_law_take
def d_law_yv_residue : List D → Rt := nk0 (fnD 1 3 fx_law_yv_residue b_law_yv_residue)
abbrev N_law : List Str := ["script", "jar", "go", "a", "b"]
def fx_law : Nat → Bool := fun i => i == 0
def B_law (g_law_c4_hand_right g_law_c4_refused_right g_law_c4_told_right g_law_pool g_law_yv_residue : List D → Rt) : SDen :=
    sq (sSet 1 (callD g_law_pool (acons (nm 0) (anil))))
    (sq (sFor (rgS1 (cst (.int 12))) (gN 2) (sq (sPar 3 4 (acons (bin max2D (cst (.int 1)) (callD g_law_yv_residue (acons (nm 1) (anil)))) (acons (bin max2D (cst (.int 1)) (callD g_law_yv_residue (acons (nm 1) (anil)))) (anil))))
    (sIf (notT (tst (callD g_law_c4_told_right (acons (nm 3) (acons (nm 4) (anil)))))) (sRet (cst (.bl false))) (sNil))))
    (sq (sIf (orT (notT (tst (callD g_law_c4_told_right (acons (cst (.int 1)) (acons (cst (.int 2147483646)) (anil)))))) (notT (tst (callD g_law_c4_told_right (acons (cst (.int 2147483646)) (acons (cst (.int 2)) (anil))))))) (sRet (cst (.bl false))) (sNil))
    (sRet (andV (callD g_law_c4_refused_right (acons (nm 1) (anil))) (callD g_law_c4_hand_right anil)))))
def b_law : SDen := B_law d_law_c4_hand_right d_law_c4_refused_right d_law_c4_told_right d_law_pool d_law_yv_residue
def d_law : List D → Rt := nk0 (fnD 1 5 fx_law b_law)
/-! ### facts of the program -/
def tf : List He.Defn := [("_law_c4_told_right", none), ("_law_c4_other", none), ("_law_c4_refused_right", none), ("_law_c4_hand_right", none)]
def fI (K : PySem.W.Frag) : Addr := He.ma K (He.ga K "Refused") "__init__"
structure Fx (K : PySem.W.Frag) (mg : Str → Option Value) : Prop where
  n_ValueError : mg "ValueError" = none
  n_bool : mg "bool" = none
  n_enumerate : mg "enumerate" = none
  n_int : mg "int" = none
  n_isinstance : mg "isinstance" = none
  n_len : mg "len" = none
  n_list : mg "list" = none
  n_max : mg "max" = none
  n_range : mg "range" = none
  n_str : mg "str" = none
  n_tuple : mg "tuple" = none
  i_PRIME : ∃ t, mg "PRIME" = some (.int 2147483647 t)
  i_MOST_NUMBERS : ∃ t, mg "MOST_NUMBERS" = some (.int 40 t)
  g_Refused : mg "Refused" = some (.ref (He.ga K "Refused"))
  g_BadResidue : mg "BadResidue" = some (.ref (He.ga K "BadResidue"))
  g_BadPoly : mg "BadPoly" = some (.ref (He.ga K "BadPoly"))
  g_Zero : mg "Zero" = some (.ref (He.ga K "Zero"))
  g_is_residue : mg "is_residue" = some (.ref (He.ga K "is_residue"))
  F_is_residue : ∃ fd, Fun K "is_residue" "is_residue" s_is_residue (He.ga K "is_residue") fd
  k_is_residue : PySem.W.keepIn K (.ref (He.ga K "is_residue")) = true
  g_wrong_residues : mg "wrong_residues" = some (.ref (He.ga K "wrong_residues"))
  F_wrong_residues : ∃ fd, Fun K "wrong_residues" "wrong_residues" s_wrong_residues (He.ga K "wrong_residues") fd
  k_wrong_residues : PySem.W.keepIn K (.ref (He.ga K "wrong_residues")) = true
  g_power : mg "power" = some (.ref (He.ga K "power"))
  F_power : ∃ fd, Fun K "power" "power" s_power (He.ga K "power") fd
  k_power : PySem.W.keepIn K (.ref (He.ga K "power")) = true
  g_inverse_of : mg "inverse_of" = some (.ref (He.ga K "inverse_of"))
  F_inverse_of : ∃ fd, Fun K "inverse_of" "inverse_of" s_inverse_of (He.ga K "inverse_of") fd
  k_inverse_of : PySem.W.keepIn K (.ref (He.ga K "inverse_of")) = true
  g_trimmed : mg "trimmed" = some (.ref (He.ga K "trimmed"))
  F_trimmed : ∃ fd, Fun K "trimmed" "trimmed" s_trimmed (He.ga K "trimmed") fd
  k_trimmed : PySem.W.keepIn K (.ref (He.ga K "trimmed")) = true
  g_product_of : mg "product_of" = some (.ref (He.ga K "product_of"))
  F_product_of : ∃ fd, Fun K "product_of" "product_of" s_product_of (He.ga K "product_of") fd
  k_product_of : PySem.W.keepIn K (.ref (He.ga K "product_of")) = true
  g_quotient_of : mg "quotient_of" = some (.ref (He.ga K "quotient_of"))
  F_quotient_of : ∃ fd, Fun K "quotient_of" "quotient_of" s_quotient_of (He.ga K "quotient_of") fd
  k_quotient_of : PySem.W.keepIn K (.ref (He.ga K "quotient_of")) = true
  g_made_poly : mg "made_poly" = some (.ref (He.ga K "made_poly"))
  F_made_poly : ∃ fd, Fun K "made_poly" "made_poly" s_made_poly (He.ga K "made_poly") fd
  k_made_poly : PySem.W.keepIn K (.ref (He.ga K "made_poly")) = true
  g_inverse : mg "inverse" = some (.ref (He.ga K "inverse"))
  F_inverse : ∃ fd, Fun K "inverse" "inverse" s_inverse (He.ga K "inverse") fd
  k_inverse : PySem.W.keepIn K (.ref (He.ga K "inverse")) = true
  g_times : mg "times" = some (.ref (He.ga K "times"))
  F_times : ∃ fd, Fun K "times" "times" s_times (He.ga K "times") fd
  k_times : PySem.W.keepIn K (.ref (He.ga K "times")) = true
  g_quotient : mg "quotient" = some (.ref (He.ga K "quotient"))
  F_quotient : ∃ fd, Fun K "quotient" "quotient" s_quotient (He.ga K "quotient") fd
  k_quotient : PySem.W.keepIn K (.ref (He.ga K "quotient")) = true
  g_law_pool : mg "_law_pool" = some (.ref (He.ga K "_law_pool"))
  F_law_pool : ∃ fd, Fun K "_law_pool" "_law_pool" s_law_pool (He.ga K "_law_pool") fd
  k_law_pool : PySem.W.keepIn K (.ref (He.ga K "_law_pool")) = true
  g_law_take : mg "_law_take" = some (.ref (He.ga K "_law_take"))
  F_law_take : ∃ fd, Fun K "_law_take" "_law_take" s_law_take (He.ga K "_law_take") fd
  k_law_take : PySem.W.keepIn K (.ref (He.ga K "_law_take")) = true
  g_law_one : mg "_law_one" = some (.ref (He.ga K "_law_one"))
  F_law_one : ∃ fd, Fun K "_law_one" "_law_one" s_law_one (He.ga K "_law_one") fd
  k_law_one : PySem.W.keepIn K (.ref (He.ga K "_law_one")) = true
  g_law_yv_is_whole : mg "_law_yv_is_whole" = some (.ref (He.ga K "_law_yv_is_whole"))
  F_law_yv_is_whole : ∃ fd, Fun K "_law_yv_is_whole" "_law_yv_is_whole" s_law_yv_is_whole (He.ga K "_law_yv_is_whole") fd
  k_law_yv_is_whole : PySem.W.keepIn K (.ref (He.ga K "_law_yv_is_whole")) = true
  g_law_yv_is_in : mg "_law_yv_is_in" = some (.ref (He.ga K "_law_yv_is_in"))
  F_law_yv_is_in : ∃ fd, Fun K "_law_yv_is_in" "_law_yv_is_in" s_law_yv_is_in (He.ga K "_law_yv_is_in") fd
  k_law_yv_is_in : PySem.W.keepIn K (.ref (He.ga K "_law_yv_is_in")) = true
  g_law_yv_same : mg "_law_yv_same" = some (.ref (He.ga K "_law_yv_same"))
  F_law_yv_same : ∃ fd, Fun K "_law_yv_same" "_law_yv_same" s_law_yv_same (He.ga K "_law_yv_same") fd
  k_law_yv_same : PySem.W.keepIn K (.ref (He.ga K "_law_yv_same")) = true
  g_law_yv_is_residue : mg "_law_yv_is_residue" = some (.ref (He.ga K "_law_yv_is_residue"))
  F_law_yv_is_residue : ∃ fd, Fun K "_law_yv_is_residue" "_law_yv_is_residue" s_law_yv_is_residue (He.ga K "_law_yv_is_residue") fd
  k_law_yv_is_residue : PySem.W.keepIn K (.ref (He.ga K "_law_yv_is_residue")) = true
  g_law_yv_residue : mg "_law_yv_residue" = some (.ref (He.ga K "_law_yv_residue"))
  F_law_yv_residue : ∃ fd, Fun K "_law_yv_residue" "_law_yv_residue" s_law_yv_residue (He.ga K "_law_yv_residue") fd
  k_law_yv_residue : PySem.W.keepIn K (.ref (He.ga K "_law_yv_residue")) = true
  g_law_c4_heard : mg "_law_c4_heard" = some (.ref (He.ga K "_law_c4_heard"))
  F_law_c4_heard : ∃ fd, Fun K "_law_c4_heard" "_law_c4_heard" s_law_c4_heard (He.ga K "_law_c4_heard") fd
  k_law_c4_heard : PySem.W.keepIn K (.ref (He.ga K "_law_c4_heard")) = true
  g_law_c4_tells : mg "_law_c4_tells" = some (.ref (He.ga K "_law_c4_tells"))
  F_law_c4_tells : ∃ fd, Fun K "_law_c4_tells" "_law_c4_tells" s_law_c4_tells (He.ga K "_law_c4_tells") fd
  k_law_c4_tells : PySem.W.keepIn K (.ref (He.ga K "_law_c4_tells")) = true
  g_law_c4_is_inverse : mg "_law_c4_is_inverse" = some (.ref (He.ga K "_law_c4_is_inverse"))
  F_law_c4_is_inverse : ∃ fd, Fun K "_law_c4_is_inverse" "_law_c4_is_inverse" s_law_c4_is_inverse (He.ga K "_law_c4_is_inverse") fd
  k_law_c4_is_inverse : PySem.W.keepIn K (.ref (He.ga K "_law_c4_is_inverse")) = true
  g_law_c4_told_right : mg "_law_c4_told_right" = some (.ref (He.ga K "_law_c4_told_right"))
  F_law_c4_told_right : ∃ fd, Fun K "_law_c4_told_right" "_law_c4_told_right" s_law_c4_told_right (He.ga K "_law_c4_told_right") fd
  k_law_c4_told_right : PySem.W.keepIn K (.ref (He.ga K "_law_c4_told_right")) = true
  g_law_c4_other : mg "_law_c4_other" = some (.ref (He.ga K "_law_c4_other"))
  F_law_c4_other : ∃ fd, Fun K "_law_c4_other" "_law_c4_other" s_law_c4_other (He.ga K "_law_c4_other") fd
  k_law_c4_other : PySem.W.keepIn K (.ref (He.ga K "_law_c4_other")) = true
  g_law_c4_row : mg "_law_c4_row" = some (.ref (He.ga K "_law_c4_row"))
  F_law_c4_row : ∃ fd, Fun K "_law_c4_row" "_law_c4_row" s_law_c4_row (He.ga K "_law_c4_row") fd
  k_law_c4_row : PySem.W.keepIn K (.ref (He.ga K "_law_c4_row")) = true
  g_law_c4_refused_right : mg "_law_c4_refused_right" = some (.ref (He.ga K "_law_c4_refused_right"))
  F_law_c4_refused_right : ∃ fd, Fun K "_law_c4_refused_right" "_law_c4_refused_right" s_law_c4_refused_right (He.ga K "_law_c4_refused_right") fd
  k_law_c4_refused_right : PySem.W.keepIn K (.ref (He.ga K "_law_c4_refused_right")) = true
  g_law_c4_hand_right : mg "_law_c4_hand_right" = some (.ref (He.ga K "_law_c4_hand_right"))
  F_law_c4_hand_right : ∃ fd, Fun K "_law_c4_hand_right" "_law_c4_hand_right" s_law_c4_hand_right (He.ga K "_law_c4_hand_right") fd
  k_law_c4_hand_right : PySem.W.keepIn K (.ref (He.ga K "_law_c4_hand_right")) = true
  g_law : mg "law" = some (.ref (He.ga K "law"))
  F_law : ∃ fd, Fun K "law" "law" s_law (He.ga K "law") fd
  k_law : PySem.W.keepIn K (.ref (He.ga K "law")) = true
  FI : ∃ fd, Fun K "__init__" "Refused.__init__" s_Rinit (fI K) fd
  vI : PySem.W.findCls K (.type "ValueError") (.type "type") "__init__" = some (.val (.builtin "ValueError.__init__"))
  tI : PySem.W.typeIn K (.ref (fI K)) = some (.type "function")
  eA : ∀ x ∈ errs, ErrF K (fI K) (He.ga K x)
  gA : ∀ x ∈ errs, mg x = some (.ref (He.ga K x))
  xA : ∀ x ∈ errs, PySem.W.exmOne K (.ref (He.ga K x)) (.ref (He.ga K "Refused")) = some true
  kA : ∀ x ∈ errs, ∀ y ∈ errs, PySem.W.kitOne K (.ref (He.ga K x)) (.ref (He.ga K y)) = some (decide (x = y))
  nd : (tf.map fun p => (He.cT K p).2).Nodup
section
variable {P : Program} {w : World} {K : PySem.W.Frag} {mg : Str → Option Value} {base : Heap}
theorem Fx.sub (W : Fx K mg) (n : Str) (C : Addr) (b : Bool) (h : mg n = some (.ref C)) (e : subE n = some b) : PySem.W.exmOne K (.ref C) (.ref (He.ga K "Refused")) = some b := by
  unfold subE at e
  split at e
  · rename_i hn
    cases e
    have z := (W.gA n hn).symm.trans h
    cases z
    exact W.xA n hn
  · cases e
theorem Fx.mem {n : Str} (e : subE n = some true) : n ∈ errs := by
  unfold subE at e
  split at e
  · assumption
  · cases e
theorem Fx.err (W : Fx K mg) (n : Str) (C : Addr) (e : subE n = some true) (h : mg n = some (.ref C)) : ErrF K (fI K) C := by
  have z := (W.gA n (Fx.mem e)).symm.trans h
  cases z
  exact W.eA n (Fx.mem e)
theorem Fx.kit (W : Fx K mg) (n : Str) (C : Addr) (e : subE n = some true) (h : mg n = some (.ref C)) (y : Str) (hy : y ∈ errs) : PySem.W.kitOne K (.ref C) (.ref (He.ga K y)) = some (decide (n = y)) := by
  have z := (W.gA n (Fx.mem e)).symm.trans h
  cases z
  exact W.kA n (Fx.mem e) y hy
theorem Fx.e_BadResidue (W : Fx K mg) : ErrF K (fI K) (He.ga K "BadResidue") := W.eA "BadResidue" (by decide)
theorem Fx.e_BadPoly (W : Fx K mg) : ErrF K (fI K) (He.ga K "BadPoly") := W.eA "BadPoly" (by decide)
theorem Fx.e_Zero (W : Fx K mg) : ErrF K (fI K) (He.ga K "Zero") := W.eA "Zero" (by decide)
abbrev TT (K : PySem.W.Frag) : List (Addr × Str) := tf.map (qtab K)
/-- the world's part: tables of code objects -/
structure Wd (K : PySem.W.Frag) (mg : Str → Option Value) (base : Heap) : Prop extends Fx K mg where
  tb : ∀ p ∈ tf, LamX.TabB base mg (He.cT K p).1 (He.cT K p).2
theorem own_fx {c : Y.Ctx} {fx : Nat → Bool} {l : List Nat} (hfx : c.fx = fx) (h : l.all (fun i => !fx i) = true) : ∀ i ∈ l, c.fx i = false := fun i hi => by
  rw [hfx]
  simpa using List.all_eq_true.mp h i hi
theorem binds_mk {x qual : Str} {st : Stmt} {f : Addr} {fd : FuncData} {ps : List Str} (F : Fun K x qual st f fd) (h : ∀ (kV doc pm : Value) (an : Option Addr) (cdv ct : Value) (us : List Value), us.length = ps.length → bindArgs (PySem.W.fnOf x qual (defArgs st) (defBody st) (defScope st) .none kV doc pm an cdv ct) ⟨us, []⟩ = pure (ps.zip us)) : Binds K fd ps [] := F.binds h
theorem scI : FnScope ["self", "what"] ["self", "what"] (defScope s_Rinit) := ⟨rfl, rfl, rfl, by decide +kernel, rfl, by decide +kernel, by decide +kernel⟩
theorem ri_any (W : Fx K mg) {fd : FuncData} (F : Fun K "__init__" "Refused.__init__" s_Rinit (fI K) fd) : FnOk P w K mg base (L2.CX P w) 1 (fI K) fd ["self", "what"] (spRi K) := by
  refine F.okX scI (fun vs H Q E h => ?_) (fun cdv A outer s H vs Q E hr h => ?_)
  · obtain ⟨a, C, v, rfl, _⟩ := h
    rfl
  · obtain ⟨a, C, v, rfl, T, hw, ha, q⟩ := h
    refine ⟨_, pss_cons (ps_expr (pe_veinit rfl W.n_ValueError W.vI (pa_cons (pv 0) (pa_cons (pv 1) pa_nil)))) (pss_one (ps_ost (pv 0) (pv 1))), ?_⟩
    exact ⟨_, rfl, _, rfl, a, C, [v], rfl, (by show 1 ≤ 1000; decide), T, ha, _, rfl, _, rfl, a, C, rfl, T, hw, .inl ⟨ha, q⟩⟩
theorem bindI {fd : FuncData} (F : Fun K "__init__" "Refused.__init__" s_Rinit (fI K) fd) : Binds K fd ["self", "what"] [] := binds_mk F fun _ _ _ _ _ _ us hl => match us, hl with | [_, _], _ => rfl
theorem sc_law_c4_heard : FnScope N_law_c4_heard ["call"] (defScope s_law_c4_heard) := ⟨rfl, rfl, rfl, by decide +kernel, rfl, by decide +kernel, by decide +kernel⟩
theorem a_law_c4_heard (W : Wd K mg base) {fd : FuncData} (Fn : Fun K "_law_c4_heard" "_law_c4_heard" s_law_c4_heard (He.ga K "_law_c4_heard") fd) : FnA P w K mg base (TT K) 5 6 (He.ga K "_law_c4_heard") fd ["call"] d_law_c4_heard := by
  have S := sc_law_c4_heard
  refine fnA_of (N := N_law_c4_heard) (ps := ["call"]) (k := 5) (fx := fx_law_c4_heard) (body := b_law_c4_heard) Fn S (fun c A outer s H E hK hM hT hfx hr hG0 => ?_)
  have hG : CloAt (cxOf (L2.CX P w) P w K mg base N_law_c4_heard "_law_c4_heard" (defScope s_law_c4_heard) (He.ga K "_law_c4_heard") fd.code A outer s H E) c 5 := .inr ⟨rfl, hG0⟩
  unfold b_law_c4_heard
  exact ss_one (s_try (x := "Refused") (i := 1) rfl rfl S.nd rfl rfl ⟨rfl, by decide, .inl W.g_Refused⟩ hK hM (congrFun hfx 1) (fun n C b => W.sub n C b) (fun pn xe hp => ss_one (s_ret (t_tup (ta_cons (t_str) (ta_cons (t_clo (LC := 5) (i := 0) (hr.mono (by decide)) hG) (ta_nil)))))) (fun n dD a oe cls d pn c' hn Ix hz hf => by
      have hK0 := hK
      have hM0 := hM
      have hK := Ix.K.trans hK
      have hM := Ix.mg.trans hM
      have hT := Ix.T.trans hT
      have hx := fun C hC => W.err n C hn hC
      have hkit := fun C hC => W.kit n C hn hC
      exact ss_one (s_ret (t_tup (ta_cons (t_if (tt_val (t_isX (X := (cxOf (L2.CX P w) P w K mg base N_law_c4_heard "_law_c4_heard" (defScope s_law_c4_heard) (He.ga K "_law_c4_heard") fd.code A outer s H E)) (i := 1) rfl Ix hM0 (fun C hC => ⟨(hx C hC).i, hkit C hC "BadResidue" (by decide)⟩) hz hf W.n_isinstance W.g_BadResidue)) (t_str) (t_str)) (ta_cons (t_what (X := (cxOf (L2.CX P w) P w K mg base N_law_c4_heard "_law_c4_heard" (defScope s_law_c4_heard) (He.ga K "_law_c4_heard") fd.code A outer s H E)) (i := 1) rfl Ix hK0 hM0 (fun C hC => ⟨(hx C hC).x, (hx C hC).k.wha⟩) hz hf) (ta_nil)))))))
theorem y_law_c4_heard (W : Wd K mg base) : FnY P w K mg base (TT K) 5 6 (He.ga K "_law_c4_heard") d_law_c4_heard := by
  obtain ⟨fd, Fn⟩ := W.F_law_c4_heard
  exact (a_law_c4_heard W Fn).y (binds_mk Fn fun _ _ _ _ _ _ us hl => match us, hl with | [_], _ => rfl)
theorem sc_law_yv_is_whole : FnScope N_law_yv_is_whole ["thing"] (defScope s_law_yv_is_whole) := ⟨rfl, rfl, rfl, by decide +kernel, rfl, by decide +kernel, by decide +kernel⟩
theorem a_law_yv_is_whole (W : Wd K mg base) {fd : FuncData} (Fn : Fun K "_law_yv_is_whole" "_law_yv_is_whole" s_law_yv_is_whole (He.ga K "_law_yv_is_whole") fd) : FnA P w K mg base (TT K) 5 1 (He.ga K "_law_yv_is_whole") fd ["thing"] d_law_yv_is_whole := by
  have S := sc_law_yv_is_whole
  refine fnA_of0 (N := N_law_yv_is_whole) (ps := ["thing"]) (k := 0) (fx := fx_law_yv_is_whole) (body := b_law_yv_is_whole) Fn S (fun c A outer s H E hK hM hT hfx hr hG => ?_)
  unfold b_law_yv_is_whole
  exact ss_one (s_ret (t_and (t_isi isTy_int hK W.n_isinstance W.n_int (by decide +kernel) (t_nm 0)) (t_one (t_not (t_isi isTy_bool hK W.n_isinstance W.n_bool (by decide +kernel) (t_nm 0))))))
theorem y_law_yv_is_whole (W : Wd K mg base) : FnY P w K mg base (TT K) 5 1 (He.ga K "_law_yv_is_whole") d_law_yv_is_whole := by
  obtain ⟨fd, Fn⟩ := W.F_law_yv_is_whole
  exact (a_law_yv_is_whole W Fn).y0 (binds_mk Fn fun _ _ _ _ _ _ us hl => match us, hl with | [_], _ => rfl)
theorem sc_law_yv_same : FnScope N_law_yv_same ["heard", "owed"] (defScope s_law_yv_same) := ⟨rfl, rfl, rfl, by decide +kernel, rfl, by decide +kernel, by decide +kernel⟩
theorem a_law_yv_same (W : Wd K mg base) {fd : FuncData} (Fn : Fun K "_law_yv_same" "_law_yv_same" s_law_yv_same (He.ga K "_law_yv_same") fd) : FnA P w K mg base (TT K) 5 2 (He.ga K "_law_yv_same") fd ["heard", "owed"] d_law_yv_same := by
  have S := sc_law_yv_same
  refine fnA_of0 (N := N_law_yv_same) (ps := ["heard", "owed"]) (k := 1) (fx := fx_law_yv_same) (body := b_law_yv_same) Fn S (fun c A outer s H E hK hM hT hfx hr hG => ?_)
  unfold b_law_yv_same B_law_yv_same
  exact ss_cons (s_set (i := 2) S.nd rfl (by first | exact Or.inl rfl | exact Or.inr rfl) (congrFun hfx 2) (t_lst (ta_cons (t_tup (ta_cons (t_vl 0) (ta_cons (t_vl 1) (ta_nil)))) (ta_nil))))
    (ss_cons (s_while (n := 1000) (passes_of rfl) (tt_ne hK hr.units (t_nm 2) (t_lst (ta_nil))) (ss_cons (s_asg (t_pop (i := 2) rfl) (g_tup hK rfl (gs_cons (g_name (i := 3) S.nd rfl (by first | exact Or.inl rfl | exact Or.inr rfl) (congrFun hfx 3)) (gs_cons (g_name (i := 4) S.nd rfl (by first | exact Or.inl rfl | exact Or.inr rfl) (congrFun hfx 4)) (gs_nil)))))
    (ss_cons (s_if (tt_isN (t_nm 4) (t_non)) (ss_one (s_set (i := 5) S.nd rfl (by first | exact Or.inl rfl | exact Or.inr rfl) (congrFun hfx 5) (t_isN (t_nm 3) (t_non)))) (ss_one (s_if (tt_val (t_isi isTy_bool hK W.n_isinstance W.n_bool (by decide +kernel) (t_nm 4))) (ss_one (s_set (i := 5) S.nd rfl (by first | exact Or.inl rfl | exact Or.inr rfl) (congrFun hfx 5) (t_and (t_isi isTy_bool hK W.n_isinstance W.n_bool (by decide +kernel) (t_nm 3)) (t_one (t_eq hK hr.units (t_nm 3) (t_nm 4)))))) (ss_one (s_if (tt_val (t_isi isTy_int hK W.n_isinstance W.n_int (by decide +kernel) (t_nm 4))) (ss_one (s_set (i := 5) S.nd rfl (by first | exact Or.inl rfl | exact Or.inr rfl) (congrFun hfx 5) (t_and (t_call (FnY.at hT (y_law_yv_is_whole W)) hK hM (hr.mono (by decide)) (.inl hG) W.g_law_yv_is_whole (W.k_law_yv_is_whole) (ta_cons (t_nm 3) (ta_nil))) (t_one (t_eq hK hr.units (t_nm 3) (t_nm 4)))))) (ss_one (s_if (tt_val (t_isi isTy_str hK W.n_isinstance W.n_str (by decide +kernel) (t_nm 4))) (ss_one (s_set (i := 5) S.nd rfl (by first | exact Or.inl rfl | exact Or.inr rfl) (congrFun hfx 5) (t_and (t_isi isTy_str hK W.n_isinstance W.n_str (by decide +kernel) (t_nm 3)) (t_one (t_eq hK hr.units (t_nm 3) (t_nm 4)))))) (ss_cons (s_set (i := 5) S.nd rfl (by first | exact Or.inl rfl | exact Or.inr rfl) (congrFun hfx 5) (t_if (tt_val (t_isi isTy_tuple hK W.n_isinstance W.n_tuple (by decide +kernel) (t_nm 4))) (t_isi isTy_tuple hK W.n_isinstance W.n_tuple (by decide +kernel) (t_nm 3)) (t_isi isTy_list hK W.n_isinstance W.n_list (by decide +kernel) (t_nm 3))))
    (ss_cons (s_set (i := 5) S.nd rfl (by first | exact Or.inl rfl | exact Or.inr rfl) (congrFun hfx 5) (t_and (t_vl 5) (t_one (t_eq hK hr.units (t_len hK W.n_len (t_nm 3)) (t_len hK W.n_len (t_nm 4))))))
    (ss_one (s_expr (t_extend (i := 2) rfl (ta_cons (t_if (tt_val (t_nm 5)) (t_lc (own := [("at", 6)]) rfl S.nd (own_fx hfx (by decide)) (by decide) (i_range1 W.n_range (t_len hK W.n_len (t_nm 4))) (blkOk_by (own := [("at", 6)]) (N := N_law_yv_same) (sc := (defScope s_law_yv_same)) (by decide +kernel)) (fun _ _ _ _ _ => g_name (i := 6) S.nd rfl (by first | exact Or.inl rfl | exact Or.inr rfl) (congrFun hfx 6)) (fun _ _ _ _ _ => tts_nil) (fun _ _ _ _ _ => t_tup (ta_cons (t_ixA hK (hu_of hr) (t_nm 3) (t_nm 6)) (ta_cons (t_ixA hK (hu_of hr) (t_nm 4) (t_nm 6)) (ta_nil))))) (t_lst (ta_nil))) (ta_nil))))))))))))))
    (ss_one (s_if (tt_not (tt_val (t_nm 5))) (ss_one (s_ret (t_bl))) (ss_nil))))))
    (ss_one (s_ret (t_bl))))
theorem y_law_yv_same (W : Wd K mg base) : FnY P w K mg base (TT K) 5 2 (He.ga K "_law_yv_same") d_law_yv_same := by
  obtain ⟨fd, Fn⟩ := W.F_law_yv_same
  exact (a_law_yv_same W Fn).y0 (binds_mk Fn fun _ _ _ _ _ _ us hl => match us, hl with | [_, _], _ => rfl)
theorem sc_law_c4_tells : FnScope N_law_c4_tells ["call", "owed"] (defScope s_law_c4_tells) := ⟨rfl, rfl, rfl, by decide +kernel, rfl, by decide +kernel, by decide +kernel⟩
theorem a_law_c4_tells (W : Wd K mg base) {fd : FuncData} (Fn : Fun K "_law_c4_tells" "_law_c4_tells" s_law_c4_tells (He.ga K "_law_c4_tells") fd) : FnA P w K mg base (TT K) 5 7 (He.ga K "_law_c4_tells") fd ["call", "owed"] d_law_c4_tells := by
  have S := sc_law_c4_tells
  refine fnA_of (N := N_law_c4_tells) (ps := ["call", "owed"]) (k := 6) (fx := fx_law_c4_tells) (body := b_law_c4_tells) Fn S (fun c A outer s H E hK hM hT hfx hr hG0 => ?_)
  have hG : CloAt (cxOf (L2.CX P w) P w K mg base N_law_c4_tells "_law_c4_tells" (defScope s_law_c4_tells) (He.ga K "_law_c4_tells") fd.code A outer s H E) c 5 := .inr ⟨rfl, hG0⟩
  unfold b_law_c4_tells B_law_c4_tells
  exact ss_one (s_ret (t_call (FnY.at hT (y_law_yv_same W)) hK hM (hr.mono (by decide)) hG W.g_law_yv_same (W.k_law_yv_same) (ta_cons (t_call (FnY.at hT (y_law_c4_heard W)) hK hM (hr.mono (by decide)) hG W.g_law_c4_heard (W.k_law_c4_heard) (ta_cons (t_nm 0) (ta_nil))) (ta_cons (t_tup (ta_cons (t_str) (ta_cons (t_vl 1) (ta_nil)))) (ta_nil)))))
theorem y_law_c4_tells (W : Wd K mg base) : FnY P w K mg base (TT K) 5 7 (He.ga K "_law_c4_tells") d_law_c4_tells := by
  obtain ⟨fd, Fn⟩ := W.F_law_c4_tells
  exact (a_law_c4_tells W Fn).y (binds_mk Fn fun _ _ _ _ _ _ us hl => match us, hl with | [_, _], _ => rfl)
theorem sc_power : FnScope N_power ["a", "e"] (defScope s_power) := ⟨rfl, rfl, rfl, by decide +kernel, rfl, by decide +kernel, by decide +kernel⟩
theorem a_power (W : Wd K mg base) {fd : FuncData} (Fn : Fun K "power" "power" s_power (He.ga K "power") fd) : FnA P w K mg base (TT K) 5 1 (He.ga K "power") fd ["a", "e"] d_power := by
  have S := sc_power
  obtain ⟨t_PRIME, i_PRIME⟩ := W.i_PRIME
  refine fnA_of0 (N := N_power) (ps := ["a", "e"]) (k := 0) (fx := fx_power) (body := b_power) Fn S (fun c A outer s H E hK hM hT hfx hr hG => ?_)
  unfold b_power
  exact ss_cons (s_set (i := 2) S.nd rfl (by first | exact Or.inl rfl | exact Or.inr rfl) (congrFun hfx 2) (t_int))
    (ss_cons (s_while (n := 1000) (passes_of rfl) (tt_gt (t_nm 1) (t_int)) (ss_cons (s_set (i := 2) S.nd rfl (by first | exact Or.inl rfl | exact Or.inr rfl) (congrFun hfx 2) (t_if (tt_eq hK hr.units (t_mod (t_nm 1) (t_int)) (t_int)) (t_mod (t_mul hK (t_nm 2) (t_nm 0)) (t_gint i_PRIME)) (t_vl 2)))
    (ss_one (s_par (i := 0) (j := 1) rfl S.nd rfl rfl (by decide) (congrFun hfx 0) (congrFun hfx 1) rfl rfl (ta_cons (t_mod (t_mul hK (t_nm 0) (t_nm 0)) (t_gint i_PRIME)) (ta_cons (t_fdiv (t_nm 1) (t_int)) (ta_nil)))))))
    (ss_one (s_ret (t_nm 2))))
theorem y_power (W : Wd K mg base) : FnY P w K mg base (TT K) 5 1 (He.ga K "power") d_power := by
  obtain ⟨fd, Fn⟩ := W.F_power
  exact (a_power W Fn).y0 (binds_mk Fn fun _ _ _ _ _ _ us hl => match us, hl with | [_, _], _ => rfl)
theorem sc_inverse_of : FnScope N_inverse_of ["a"] (defScope s_inverse_of) := ⟨rfl, rfl, rfl, by decide +kernel, rfl, by decide +kernel, by decide +kernel⟩
theorem a_inverse_of (W : Wd K mg base) {fd : FuncData} (Fn : Fun K "inverse_of" "inverse_of" s_inverse_of (He.ga K "inverse_of") fd) : FnA P w K mg base (TT K) 5 2 (He.ga K "inverse_of") fd ["a"] d_inverse_of := by
  have S := sc_inverse_of
  obtain ⟨t_PRIME, i_PRIME⟩ := W.i_PRIME
  refine fnA_of0 (N := N_inverse_of) (ps := ["a"]) (k := 1) (fx := fx_inverse_of) (body := b_inverse_of) Fn S (fun c A outer s H E hK hM hT hfx hr hG => ?_)
  unfold b_inverse_of B_inverse_of
  exact ss_one (s_ret (t_call (FnY.at hT (y_power W)) hK hM (hr.mono (by decide)) (.inl hG) W.g_power (W.k_power) (ta_cons (t_nm 0) (ta_cons (t_sub (t_gint i_PRIME) (t_int)) (ta_nil)))))
theorem y_inverse_of (W : Wd K mg base) : FnY P w K mg base (TT K) 5 2 (He.ga K "inverse_of") d_inverse_of := by
  obtain ⟨fd, Fn⟩ := W.F_inverse_of
  exact (a_inverse_of W Fn).y0 (binds_mk Fn fun _ _ _ _ _ _ us hl => match us, hl with | [_], _ => rfl)
theorem sc_is_residue : FnScope N_is_residue ["thing"] (defScope s_is_residue) := ⟨rfl, rfl, rfl, by decide +kernel, rfl, by decide +kernel, by decide +kernel⟩
theorem a_is_residue (W : Wd K mg base) {fd : FuncData} (Fn : Fun K "is_residue" "is_residue" s_is_residue (He.ga K "is_residue") fd) : FnA P w K mg base (TT K) 5 1 (He.ga K "is_residue") fd ["thing"] d_is_residue := by
  have S := sc_is_residue
  obtain ⟨t_PRIME, i_PRIME⟩ := W.i_PRIME
  refine fnA_of0 (N := N_is_residue) (ps := ["thing"]) (k := 0) (fx := fx_is_residue) (body := b_is_residue) Fn S (fun c A outer s H E hK hM hT hfx hr hG => ?_)
  unfold b_is_residue
  exact ss_one (s_ret (t_and (t_isi isTy_int hK W.n_isinstance W.n_int (by decide +kernel) (t_nm 0)) (t_and (t_not (t_isi isTy_bool hK W.n_isinstance W.n_bool (by decide +kernel) (t_nm 0))) (t_one (t_chn o_le o_lt (t_int) (t_nm 0) (t_gint i_PRIME))))))
theorem y_is_residue (W : Wd K mg base) : FnY P w K mg base (TT K) 5 1 (He.ga K "is_residue") d_is_residue := by
  obtain ⟨fd, Fn⟩ := W.F_is_residue
  exact (a_is_residue W Fn).y0 (binds_mk Fn fun _ _ _ _ _ _ us hl => match us, hl with | [_], _ => rfl)
theorem sc_inverse : FnScope N_inverse ["a"] (defScope s_inverse) := ⟨rfl, rfl, rfl, by decide +kernel, rfl, by decide +kernel, by decide +kernel⟩
theorem a_inverse (W : Wd K mg base) {fd : FuncData} (Fn : Fun K "inverse" "inverse" s_inverse (He.ga K "inverse") fd) : FnA P w K mg base (TT K) 5 3 (He.ga K "inverse") fd ["a"] d_inverse := by
  have S := sc_inverse
  obtain ⟨fdI, FI⟩ := W.FI
  refine fnA_of0 (N := N_inverse) (ps := ["a"]) (k := 2) (fx := fx_inverse) (body := b_inverse) Fn S (fun c A outer s H E hK hM hT hfx hr hG => ?_)
  unfold b_inverse B_inverse
  exact ss_cons (s_if (TrW.t (tw_or (tt_not (tt_val (t_call (FnY.at hT (y_is_residue W)) hK hM (hr.mono (by decide)) (.inl hG) W.g_is_residue (W.k_is_residue) (ta_cons (t_nm 0) (ta_nil))))) (tw_or1 (tt_eq hK hr.units (t_nm 0) (t_int))))) (ss_one (s_raise (W.e_BadResidue).k W.tI (ri_any W.toFx FI) (hr.mono (by decide)) (bindI FI) rfl hM W.g_BadResidue (ta_cons (t_vl 0) (ta_nil)))) (ss_nil))
    (ss_one (s_ret (t_call (FnY.at hT (y_inverse_of W)) hK hM (hr.mono (by decide)) (.inl hG) W.g_inverse_of (W.k_inverse_of) (ta_cons (t_nm 0) (ta_nil)))))
theorem y_inverse (W : Wd K mg base) : FnY P w K mg base (TT K) 5 3 (He.ga K "inverse") d_inverse := by
  obtain ⟨fd, Fn⟩ := W.F_inverse
  exact (a_inverse W Fn).y0 (binds_mk Fn fun _ _ _ _ _ _ us hl => match us, hl with | [_], _ => rfl)
theorem sc_law_c4_hand_right : FnScope N_law_c4_hand_right [] (defScope s_law_c4_hand_right) := ⟨rfl, rfl, rfl, by decide +kernel, rfl, by decide +kernel, by decide +kernel⟩
theorem a_law_c4_hand_right (W : Wd K mg base) {fd : FuncData} (Fn : Fun K "_law_c4_hand_right" "_law_c4_hand_right" s_law_c4_hand_right (He.ga K "_law_c4_hand_right") fd) : FnA P w K mg base (TT K) 5 8 (He.ga K "_law_c4_hand_right") fd [] d_law_c4_hand_right := by
  have S := sc_law_c4_hand_right
  refine fnA_of0 (N := N_law_c4_hand_right) (ps := []) (k := 7) (fx := fx_law_c4_hand_right) (body := b_law_c4_hand_right) Fn S (fun c A outer s H E hK hM hT hfx hr hG => ?_)
  unfold b_law_c4_hand_right B_law_c4_hand_right
  exact ss_cons (s_set (i := 0) S.nd rfl (by first | exact Or.inl rfl | exact Or.inr rfl) (congrFun hfx 0) (t_lst (ta_cons (t_tup (ta_cons (t_int) (ta_cons (t_int) (ta_nil)))) (ta_cons (t_tup (ta_cons (t_int) (ta_cons (t_int) (ta_nil)))) (ta_cons (t_tup (ta_cons (t_int) (ta_cons (t_int) (ta_nil)))) (ta_cons (t_tup (ta_cons (t_int) (ta_cons (t_int) (ta_nil)))) (ta_cons (t_tup (ta_cons (t_int) (ta_cons (t_int) (ta_nil)))) (ta_cons (t_tup (ta_cons (t_int) (ta_cons (t_int) (ta_nil)))) (ta_nil)))))))))
    (ss_cons (s_for (passes_of rfl) rfl (i_seq hK (t_add hK (t_nm 0) (t_lst (ta_cons (t_tup (ta_cons (t_int) (ta_cons (t_int) (ta_nil)))) (ta_cons (t_tup (ta_cons (t_int) (ta_cons (t_int) (ta_nil)))) (ta_nil)))))) (g_tup hK rfl (gs_cons (g_name (i := 1) S.nd rfl (by first | exact Or.inl rfl | exact Or.inr rfl) (congrFun hfx 1)) (gs_cons (g_name (i := 2) S.nd rfl (by first | exact Or.inl rfl | exact Or.inr rfl) (congrFun hfx 2)) (gs_nil)))) (ss_one (s_if (tt_not (tt_val (t_lam (LB := 4) (FnY.at hT (y_law_c4_tells W)) hK hM (hr.mono (by decide)) W.g_law_c4_tells (W.k_law_c4_tells) (W.tb ("_law_c4_hand_right", none) (by decide)) (code_of Fn) (by rw [hT]; exact qtab_mem (p := ("_law_c4_hand_right", none)) (by decide)) (by rw [hT]; exact qtab_one W.nd (by decide)) (LamX.lamS_by (sc := defScope s_law_c4_hand_right) (by decide +kernel)) rfl (fun _ _ _ _ _ => rfl) (fun cl A outer s H E f c' hK hM hTl hG hr => t_call (FnY.at (hTl.trans hT) (y_inverse W)) hK hM (hr.mono (by decide)) (.inl hG) W.g_inverse (W.k_inverse) (ta_cons (t_nm 1) (ta_nil))) (ta_cons (t_nm 2) (ta_nil))))) (ss_one (s_ret (t_bl))) (ss_nil))))
    (ss_one (s_ret (t_bl))))
theorem y_law_c4_hand_right (W : Wd K mg base) : FnY P w K mg base (TT K) 5 8 (He.ga K "_law_c4_hand_right") d_law_c4_hand_right := by
  obtain ⟨fd, Fn⟩ := W.F_law_c4_hand_right
  exact (a_law_c4_hand_right W Fn).y0 (binds_mk Fn fun _ _ _ _ _ _ us hl => match us, hl with | [], _ => rfl)
theorem sc_law_take : FnScope N_law_take ["jar", "many"] (defScope s_law_take) := ⟨rfl, rfl, rfl, by decide +kernel, rfl, by decide +kernel, by decide +kernel⟩
theorem a_law_take (W : Wd K mg base) {fd : FuncData} (Fn : Fun K "_law_take" "_law_take" s_law_take (He.ga K "_law_take") fd) : FnA P w K mg base (TT K) 5 1 (He.ga K "_law_take") fd ["jar", "many"] d_law_take := by
  have S := sc_law_take
  refine fnA_of0 (N := N_law_take) (ps := ["jar", "many"]) (k := 0) (fx := fx_law_take) (body := b_law_take) Fn S (fun c A outer s H E hK hM hT hfx hr hG => ?_)
  unfold b_law_take
  exact ss_cons (s_if (tt_gt (t_ixA hK (hu_of hr) (t_nm 0) (t_int)) (t_int)) (ss_cons (s_set (i := 2) S.nd rfl (by first | exact Or.inl rfl | exact Or.inr rfl) (congrFun hfx 2) (t_mod (t_int1 W.n_int (t_ixA hK (hu_of hr) (t_nm 0) (t_int))) (t_nm 1)))
    (ss_cons (s_sto (i := 0) rfl (t_fdiv (t_ixA hK (hu_of hr) (t_nm 0) (t_int)) (t_nm 1)) (t_int))
    (ss_one (s_ret (t_nm 2))))) (ss_nil))
    (ss_cons (s_sto (i := 0) rfl (t_add hK (t_ixA hK (hu_of hr) (t_nm 0) (t_int)) (t_int)) (t_int))
    (ss_cons (s_sto (i := 0) rfl (t_mod (t_int1 W.n_int (t_add hK (t_add hK (t_mul hK (t_ixA hK (hu_of hr) (t_nm 0) (t_int)) (t_int)) (t_mul hK (t_int) (t_ixA hK (hu_of hr) (t_nm 0) (t_int)))) (t_int))) (t_int)) (t_int))
    (ss_one (s_ret (t_mod (t_int1 W.n_int (t_fdiv (t_mod (t_int1 W.n_int (t_mul hK (t_ixA hK (hu_of hr) (t_nm 0) (t_int)) (t_ixA hK (hu_of hr) (t_nm 0) (t_int)))) (t_int)) (t_int))) (t_nm 1))))))
theorem y_law_take (W : Wd K mg base) : FnY P w K mg base (TT K) 5 1 (He.ga K "_law_take") d_law_take := by
  obtain ⟨fd, Fn⟩ := W.F_law_take
  exact (a_law_take W Fn).y0 (binds_mk Fn fun _ _ _ _ _ _ us hl => match us, hl with | [_, _], _ => rfl)
theorem sc_law_c4_refused_right : FnScope N_law_c4_refused_right ["jar"] (defScope s_law_c4_refused_right) := ⟨rfl, rfl, rfl, by decide +kernel, rfl, by decide +kernel, by decide +kernel⟩
theorem a_law_c4_refused_right (W : Wd K mg base) {fd : FuncData} (Fn : Fun K "_law_c4_refused_right" "_law_c4_refused_right" s_law_c4_refused_right (He.ga K "_law_c4_refused_right") fd) : FnA P w K mg base (TT K) 5 7 (He.ga K "_law_c4_refused_right") fd ["jar"] d_law_c4_refused_right := by
  have S := sc_law_c4_refused_right
  refine fnA_of0 (N := N_law_c4_refused_right) (ps := ["jar"]) (k := 6) (fx := fx_law_c4_refused_right) (body := b_law_c4_refused_right) Fn S (fun c A outer s H E hK hM hT hfx hr hG => ?_)
  unfold b_law_c4_refused_right B_law_c4_refused_right
  exact ss_cons (s_set (i := 1) S.nd rfl (by first | exact Or.inl rfl | exact Or.inr rfl) (congrFun hfx 1) (t_call (FnY.at hT (y_law_take W)) hK hM (hr.mono (by decide)) (.inl hG) W.g_law_take (W.k_law_take) (ta_cons (t_nm 0) (ta_cons (t_int) (ta_nil)))))
    (ss_cons (s_for (passes_of rfl) rfl (i_seq hK (t_lst (ta_cons (t_int) (ta_cons (t_int) (ta_cons (t_add hK (t_int) (t_nm 1)) (ta_cons (t_neg (t_int)) (ta_cons (t_sub (t_neg (t_int)) (t_nm 1)) (ta_cons (t_non) (ta_cons (t_bl) (ta_cons (t_bl) (ta_cons (t_str) (ta_cons (t_tup (ta_cons (t_int) (ta_nil))) (ta_cons (t_lst (ta_cons (t_int) (ta_nil))) (ta_cons (t_tup (ta_nil)) (ta_cons (t_pow (t_int) (t_int)) (ta_nil)))))))))))))))) (g_name (i := 2) S.nd rfl (by first | exact Or.inl rfl | exact Or.inr rfl) (congrFun hfx 2)) (ss_one (s_if (tt_not (tt_val (t_call (FnY.at hT (y_law_yv_same W)) hK hM (hr.mono (by decide)) (.inl hG) W.g_law_yv_same (W.k_law_yv_same) (ta_cons (t_lam (LB := 4) (FnY.at hT (y_law_c4_heard W)) hK hM (hr.mono (by decide)) W.g_law_c4_heard (W.k_law_c4_heard) (W.tb ("_law_c4_refused_right", none) (by decide)) (code_of Fn) (by rw [hT]; exact qtab_mem (p := ("_law_c4_refused_right", none)) (by decide)) (by rw [hT]; exact qtab_one W.nd (by decide)) (LamX.lamS_by (sc := defScope s_law_c4_refused_right) (by decide +kernel)) rfl (fun _ _ _ _ _ => rfl) (fun cl A outer s H E f c' hK hM hTl hG hr => t_call (FnY.at (hTl.trans hT) (y_inverse W)) hK hM (hr.mono (by decide)) (.inl hG) W.g_inverse (W.k_inverse) (ta_cons (t_nm 2) (ta_nil))) (ta_nil)) (ta_cons (t_tup (ta_cons (t_str) (ta_cons (t_vl 2) (ta_nil)))) (ta_nil)))))) (ss_one (s_ret (t_bl))) (ss_nil))))
    (ss_one (s_ret (t_bl))))
theorem y_law_c4_refused_right (W : Wd K mg base) : FnY P w K mg base (TT K) 5 7 (He.ga K "_law_c4_refused_right") d_law_c4_refused_right := by
  obtain ⟨fd, Fn⟩ := W.F_law_c4_refused_right
  exact (a_law_c4_refused_right W Fn).y0 (binds_mk Fn fun _ _ _ _ _ _ us hl => match us, hl with | [_], _ => rfl)
theorem sc_law_yv_is_in : FnScope N_law_yv_is_in ["thing", "low", "high"] (defScope s_law_yv_is_in) := ⟨rfl, rfl, rfl, by decide +kernel, rfl, by decide +kernel, by decide +kernel⟩
theorem a_law_yv_is_in (W : Wd K mg base) {fd : FuncData} (Fn : Fun K "_law_yv_is_in" "_law_yv_is_in" s_law_yv_is_in (He.ga K "_law_yv_is_in") fd) : FnA P w K mg base (TT K) 5 2 (He.ga K "_law_yv_is_in") fd ["thing", "low", "high"] d_law_yv_is_in := by
  have S := sc_law_yv_is_in
  refine fnA_of0 (N := N_law_yv_is_in) (ps := ["thing", "low", "high"]) (k := 1) (fx := fx_law_yv_is_in) (body := b_law_yv_is_in) Fn S (fun c A outer s H E hK hM hT hfx hr hG => ?_)
  unfold b_law_yv_is_in B_law_yv_is_in
  exact ss_one (s_ret (t_and (t_call (FnY.at hT (y_law_yv_is_whole W)) hK hM (hr.mono (by decide)) (.inl hG) W.g_law_yv_is_whole (W.k_law_yv_is_whole) (ta_cons (t_nm 0) (ta_nil))) (t_one (t_chn o_le o_le (t_nm 1) (t_nm 0) (t_nm 2)))))
theorem y_law_yv_is_in (W : Wd K mg base) : FnY P w K mg base (TT K) 5 2 (He.ga K "_law_yv_is_in") d_law_yv_is_in := by
  obtain ⟨fd, Fn⟩ := W.F_law_yv_is_in
  exact (a_law_yv_is_in W Fn).y0 (binds_mk Fn fun _ _ _ _ _ _ us hl => match us, hl with | [_, _, _], _ => rfl)
theorem sc_law_yv_is_residue : FnScope N_law_yv_is_residue ["thing"] (defScope s_law_yv_is_residue) := ⟨rfl, rfl, rfl, by decide +kernel, rfl, by decide +kernel, by decide +kernel⟩
theorem a_law_yv_is_residue (W : Wd K mg base) {fd : FuncData} (Fn : Fun K "_law_yv_is_residue" "_law_yv_is_residue" s_law_yv_is_residue (He.ga K "_law_yv_is_residue") fd) : FnA P w K mg base (TT K) 5 3 (He.ga K "_law_yv_is_residue") fd ["thing"] d_law_yv_is_residue := by
  have S := sc_law_yv_is_residue
  refine fnA_of0 (N := N_law_yv_is_residue) (ps := ["thing"]) (k := 2) (fx := fx_law_yv_is_residue) (body := b_law_yv_is_residue) Fn S (fun c A outer s H E hK hM hT hfx hr hG => ?_)
  unfold b_law_yv_is_residue B_law_yv_is_residue
  exact ss_one (s_ret (t_call (FnY.at hT (y_law_yv_is_in W)) hK hM (hr.mono (by decide)) (.inl hG) W.g_law_yv_is_in (W.k_law_yv_is_in) (ta_cons (t_nm 0) (ta_cons (t_int) (ta_cons (t_int) (ta_nil))))))
theorem y_law_yv_is_residue (W : Wd K mg base) : FnY P w K mg base (TT K) 5 3 (He.ga K "_law_yv_is_residue") d_law_yv_is_residue := by
  obtain ⟨fd, Fn⟩ := W.F_law_yv_is_residue
  exact (a_law_yv_is_residue W Fn).y0 (binds_mk Fn fun _ _ _ _ _ _ us hl => match us, hl with | [_], _ => rfl)
theorem sc_law_c4_is_inverse : FnScope N_law_c4_is_inverse ["a", "thing"] (defScope s_law_c4_is_inverse) := ⟨rfl, rfl, rfl, by decide +kernel, rfl, by decide +kernel, by decide +kernel⟩
theorem a_law_c4_is_inverse (W : Wd K mg base) {fd : FuncData} (Fn : Fun K "_law_c4_is_inverse" "_law_c4_is_inverse" s_law_c4_is_inverse (He.ga K "_law_c4_is_inverse") fd) : FnA P w K mg base (TT K) 5 4 (He.ga K "_law_c4_is_inverse") fd ["a", "thing"] d_law_c4_is_inverse := by
  have S := sc_law_c4_is_inverse
  refine fnA_of0 (N := N_law_c4_is_inverse) (ps := ["a", "thing"]) (k := 3) (fx := fx_law_c4_is_inverse) (body := b_law_c4_is_inverse) Fn S (fun c A outer s H E hK hM hT hfx hr hG => ?_)
  unfold b_law_c4_is_inverse B_law_c4_is_inverse
  exact ss_one (s_ret (t_and (t_call (FnY.at hT (y_law_yv_is_residue W)) hK hM (hr.mono (by decide)) (.inl hG) W.g_law_yv_is_residue (W.k_law_yv_is_residue) (ta_cons (t_nm 1) (ta_nil))) (t_one (t_eq hK hr.units (t_mod (t_int1 W.n_int (t_mul hK (t_nm 0) (t_nm 1))) (t_int)) (t_int)))))
theorem y_law_c4_is_inverse (W : Wd K mg base) : FnY P w K mg base (TT K) 5 4 (He.ga K "_law_c4_is_inverse") d_law_c4_is_inverse := by
  obtain ⟨fd, Fn⟩ := W.F_law_c4_is_inverse
  exact (a_law_c4_is_inverse W Fn).y0 (binds_mk Fn fun _ _ _ _ _ _ us hl => match us, hl with | [_, _], _ => rfl)
theorem sc_law_c4_other : FnScope N_law_c4_other ["b"] (defScope s_law_c4_other) := ⟨rfl, rfl, rfl, by decide +kernel, rfl, by decide +kernel, by decide +kernel⟩
theorem a_law_c4_other (W : Wd K mg base) {fd : FuncData} (Fn : Fun K "_law_c4_other" "_law_c4_other" s_law_c4_other (He.ga K "_law_c4_other") fd) : FnA P w K mg base (TT K) 5 7 (He.ga K "_law_c4_other") fd ["b"] d_law_c4_other := by
  have S := sc_law_c4_other
  refine fnA_of0 (N := N_law_c4_other) (ps := ["b"]) (k := 6) (fx := fx_law_c4_other) (body := b_law_c4_other) Fn S (fun c A outer s H E hK hM hT hfx hr hG => ?_)
  unfold b_law_c4_other B_law_c4_other
  exact ss_one (s_ret (t_lam (LB := 4) (FnY.at hT (y_law_c4_heard W)) hK hM (hr.mono (by decide)) W.g_law_c4_heard (W.k_law_c4_heard) (W.tb ("_law_c4_other", none) (by decide)) (code_of Fn) (by rw [hT]; exact qtab_mem (p := ("_law_c4_other", none)) (by decide)) (by rw [hT]; exact qtab_one W.nd (by decide)) (LamX.lamS_by (sc := defScope s_law_c4_other) (by decide +kernel)) rfl (fun _ _ _ _ _ => rfl) (fun cl A outer s H E f c' hK hM hTl hG hr => t_call (FnY.at (hTl.trans hT) (y_inverse W)) hK hM (hr.mono (by decide)) (.inl hG) W.g_inverse (W.k_inverse) (ta_cons (t_nm 0) (ta_nil))) (ta_nil)))
theorem y_law_c4_other (W : Wd K mg base) : FnY P w K mg base (TT K) 5 7 (He.ga K "_law_c4_other") d_law_c4_other := by
  obtain ⟨fd, Fn⟩ := W.F_law_c4_other
  exact (a_law_c4_other W Fn).y0 (binds_mk Fn fun _ _ _ _ _ _ us hl => match us, hl with | [_], _ => rfl)
theorem sc_law_c4_row : FnScope N_law_c4_row ["b", "by"] (defScope s_law_c4_row) := ⟨rfl, rfl, rfl, by decide +kernel, rfl, by decide +kernel, by decide +kernel⟩
theorem a_law_c4_row (W : Wd K mg base) {fd : FuncData} (Fn : Fun K "_law_c4_row" "_law_c4_row" s_law_c4_row (He.ga K "_law_c4_row") fd) : FnA P w K mg base (TT K) 5 1 (He.ga K "_law_c4_row") fd ["b", "by"] d_law_c4_row := by
  have S := sc_law_c4_row
  refine fnA_of0 (N := N_law_c4_row) (ps := ["b", "by"]) (k := 0) (fx := fx_law_c4_row) (body := b_law_c4_row) Fn S (fun c A outer s H E hK hM hT hfx hr hG => ?_)
  unfold b_law_c4_row
  exact ss_cons (s_set (i := 2) S.nd rfl (by first | exact Or.inl rfl | exact Or.inr rfl) (congrFun hfx 2) (t_mod (t_int1 W.n_int (t_mul hK (t_nm 0) (t_nm 1))) (t_int)))
    (ss_one (s_ret (t_tup (ta_cons (t_vl 2) (ta_cons (t_int) (ta_cons (t_vl 2) (ta_nil)))))))
theorem y_law_c4_row (W : Wd K mg base) : FnY P w K mg base (TT K) 5 1 (He.ga K "_law_c4_row") d_law_c4_row := by
  obtain ⟨fd, Fn⟩ := W.F_law_c4_row
  exact (a_law_c4_row W Fn).y0 (binds_mk Fn fun _ _ _ _ _ _ us hl => match us, hl with | [_, _], _ => rfl)
theorem sc_wrong_residues : FnScope N_wrong_residues ["thing", "many"] (defScope s_wrong_residues) := ⟨rfl, rfl, rfl, by decide +kernel, rfl, by decide +kernel, by decide +kernel⟩
theorem a_wrong_residues (W : Wd K mg base) {fd : FuncData} (Fn : Fun K "wrong_residues" "wrong_residues" s_wrong_residues (He.ga K "wrong_residues") fd) : FnA P w K mg base (TT K) 5 2 (He.ga K "wrong_residues") fd ["thing", "many"] d_wrong_residues := by
  have S := sc_wrong_residues
  refine fnA_of0 (N := N_wrong_residues) (ps := ["thing", "many"]) (k := 1) (fx := fx_wrong_residues) (body := b_wrong_residues) Fn S (fun c A outer s H E hK hM hT hfx hr hG => ?_)
  unfold b_wrong_residues B_wrong_residues
  exact ss_cons (s_if (TrW.t (tw_or (tt_not (tt_val (t_isi isTy_tuple hK W.n_isinstance W.n_tuple (by decide +kernel) (t_nm 0)))) (tw_or1 (tt_ne hK hr.units (t_len hK W.n_len (t_nm 0)) (t_nm 1))))) (ss_one (s_ret (t_neg (t_int)))) (ss_nil))
    (ss_cons (s_for (passes_of rfl) rfl (i_enum hK W.n_enumerate (t_vl 0)) (g_tup hK rfl (gs_cons (g_name (i := 2) S.nd rfl (by first | exact Or.inl rfl | exact Or.inr rfl) (congrFun hfx 2)) (gs_cons (g_name (i := 3) S.nd rfl (by first | exact Or.inl rfl | exact Or.inr rfl) (congrFun hfx 3)) (gs_nil)))) (ss_one (s_if (tt_not (tt_val (t_call (FnY.at hT (y_is_residue W)) hK hM (hr.mono (by decide)) (.inl hG) W.g_is_residue (W.k_is_residue) (ta_cons (t_nm 3) (ta_nil))))) (ss_one (s_ret (t_nm 2))) (ss_nil))))
    (ss_one (s_ret (t_non))))
theorem y_wrong_residues (W : Wd K mg base) : FnY P w K mg base (TT K) 5 2 (He.ga K "wrong_residues") d_wrong_residues := by
  obtain ⟨fd, Fn⟩ := W.F_wrong_residues
  exact (a_wrong_residues W Fn).y0 (binds_mk Fn fun _ _ _ _ _ _ us hl => match us, hl with | [_, _], _ => rfl)
theorem sc_made_poly : FnScope N_made_poly ["thing"] (defScope s_made_poly) := ⟨rfl, rfl, rfl, by decide +kernel, rfl, by decide +kernel, by decide +kernel⟩
theorem a_made_poly (W : Wd K mg base) {fd : FuncData} (Fn : Fun K "made_poly" "made_poly" s_made_poly (He.ga K "made_poly") fd) : FnA P w K mg base (TT K) 5 3 (He.ga K "made_poly") fd ["thing"] d_made_poly := by
  have S := sc_made_poly
  obtain ⟨t_MOST_NUMBERS, i_MOST_NUMBERS⟩ := W.i_MOST_NUMBERS
  obtain ⟨fdI, FI⟩ := W.FI
  refine fnA_of0 (N := N_made_poly) (ps := ["thing"]) (k := 2) (fx := fx_made_poly) (body := b_made_poly) Fn S (fun c A outer s H E hK hM hT hfx hr hG => ?_)
  unfold b_made_poly B_made_poly
  exact ss_cons (s_if (TrW.t (tw_or (tt_not (tt_val (t_isi isTy_tuple hK W.n_isinstance W.n_tuple (by decide +kernel) (t_nm 0)))) (tw_or1 (tt_gt (t_len hK W.n_len (t_nm 0)) (t_gint i_MOST_NUMBERS))))) (ss_one (s_raise (W.e_BadPoly).k W.tI (ri_any W.toFx FI) (hr.mono (by decide)) (bindI FI) rfl hM W.g_BadPoly (ta_cons (t_neg (t_int)) (ta_nil)))) (ss_nil))
    (ss_cons (s_set (i := 1) S.nd rfl (by first | exact Or.inl rfl | exact Or.inr rfl) (congrFun hfx 1) (t_call (FnY.at hT (y_wrong_residues W)) hK hM (hr.mono (by decide)) (.inl hG) W.g_wrong_residues (W.k_wrong_residues) (ta_cons (t_nm 0) (ta_cons (t_len hK W.n_len (t_nm 0)) (ta_nil)))))
    (ss_cons (s_if (tt_notN (t_nm 1) (t_non)) (ss_one (s_raise (W.e_BadPoly).k W.tI (ri_any W.toFx FI) (hr.mono (by decide)) (bindI FI) rfl hM W.g_BadPoly (ta_cons (t_vl 1) (ta_nil)))) (ss_nil))
    (ss_one (s_ret (t_nm 0)))))
theorem y_made_poly (W : Wd K mg base) : FnY P w K mg base (TT K) 5 3 (He.ga K "made_poly") d_made_poly := by
  obtain ⟨fd, Fn⟩ := W.F_made_poly
  exact (a_made_poly W Fn).y0 (binds_mk Fn fun _ _ _ _ _ _ us hl => match us, hl with | [_], _ => rfl)
theorem sc_trimmed : FnScope N_trimmed ["poly"] (defScope s_trimmed) := ⟨rfl, rfl, rfl, by decide +kernel, rfl, by decide +kernel, by decide +kernel⟩
theorem a_trimmed (W : Wd K mg base) {fd : FuncData} (Fn : Fun K "trimmed" "trimmed" s_trimmed (He.ga K "trimmed") fd) : FnA P w K mg base (TT K) 5 1 (He.ga K "trimmed") fd ["poly"] d_trimmed := by
  have S := sc_trimmed
  refine fnA_of0 (N := N_trimmed) (ps := ["poly"]) (k := 0) (fx := fx_trimmed) (body := b_trimmed) Fn S (fun c A outer s H E hK hM hT hfx hr hG => ?_)
  unfold b_trimmed
  exact ss_cons (s_set (i := 1) S.nd rfl (by first | exact Or.inl rfl | exact Or.inr rfl) (congrFun hfx 1) (t_len hK W.n_len (t_nm 0)))
    (ss_cons (s_while (n := 1000) (passes_of rfl) (TrW.t (tw_and (tt_gt (t_nm 1) (t_int)) (tw_and1 (tt_eq hK hr.units (t_ixA hK (hu_of hr) (t_nm 0) (t_sub (t_nm 1) (t_int))) (t_int))))) (ss_one (s_set (i := 1) S.nd rfl (by first | exact Or.inl rfl | exact Or.inr rfl) (congrFun hfx 1) (t_sub (t_nm 1) (t_int)))))
    (ss_one (s_ret (t_list hK W.n_list (t_slc hK (t_nm 0) (to_none) (to_some (t_nm 1)))))))
theorem y_trimmed (W : Wd K mg base) : FnY P w K mg base (TT K) 5 1 (He.ga K "trimmed") d_trimmed := by
  obtain ⟨fd, Fn⟩ := W.F_trimmed
  exact (a_trimmed W Fn).y0 (binds_mk Fn fun _ _ _ _ _ _ us hl => match us, hl with | [_], _ => rfl)
theorem sc_quotient_of : FnScope N_quotient_of ["one", "two"] (defScope s_quotient_of) := ⟨rfl, rfl, rfl, by decide +kernel, rfl, by decide +kernel, by decide +kernel⟩
theorem a_quotient_of (W : Wd K mg base) {fd : FuncData} (Fn : Fun K "quotient_of" "quotient_of" s_quotient_of (He.ga K "quotient_of") fd) : FnA P w K mg base (TT K) 5 3 (He.ga K "quotient_of") fd ["one", "two"] d_quotient_of := by
  have S := sc_quotient_of
  obtain ⟨t_PRIME, i_PRIME⟩ := W.i_PRIME
  refine fnA_of0 (N := N_quotient_of) (ps := ["one", "two"]) (k := 2) (fx := fx_quotient_of) (body := b_quotient_of) Fn S (fun c A outer s H E hK hM hT hfx hr hG => ?_)
  unfold b_quotient_of B_quotient_of
  exact ss_cons (s_par (i := 2) (j := 3) rfl S.nd rfl rfl (by decide) (congrFun hfx 2) (congrFun hfx 3) rfl rfl (ta_cons (t_call (FnY.at hT (y_trimmed W)) hK hM (hr.mono (by decide)) (.inl hG) W.g_trimmed (W.k_trimmed) (ta_cons (t_nm 0) (ta_nil))) (ta_cons (t_call (FnY.at hT (y_trimmed W)) hK hM (hr.mono (by decide)) (.inl hG) W.g_trimmed (W.k_trimmed) (ta_cons (t_nm 1) (ta_nil))) (ta_nil))))
    (ss_cons (s_par (i := 4) (j := 5) rfl S.nd rfl rfl (by decide) (congrFun hfx 4) (congrFun hfx 5) rfl rfl (ta_cons (t_call (FnY.at hT (y_inverse_of W)) hK hM (hr.mono (by decide)) (.inl hG) W.g_inverse_of (W.k_inverse_of) (ta_cons (t_ixA hK (hu_of hr) (t_nm 3) (t_neg (t_int))) (ta_nil))) (ta_cons (t_mul hK (t_lst (ta_cons (t_int) (ta_nil))) (t_max2 rfl W.n_max (t_int) (t_add hK (t_sub (t_len hK W.n_len (t_nm 2)) (t_len hK W.n_len (t_nm 3))) (t_int)))) (ta_nil))))
    (ss_cons (s_for (passes_of rfl) rfl (i_range3 W.n_range (t_sub (t_len hK W.n_len (t_nm 5)) (t_int)) (t_neg (t_int)) (pe_un un_neg pe_int)) (g_name (i := 6) S.nd rfl (by first | exact Or.inl rfl | exact Or.inr rfl) (congrFun hfx 6)) (ss_cons (s_set (i := 7) S.nd rfl (by first | exact Or.inl rfl | exact Or.inr rfl) (congrFun hfx 7) (t_mod (t_mul hK (t_ixA hK (hu_of hr) (t_nm 2) (t_sub (t_add hK (t_nm 6) (t_len hK W.n_len (t_nm 3))) (t_int))) (t_nm 4)) (t_gint i_PRIME)))
    (ss_cons (s_sto (i := 5) rfl (t_vl 7) (t_nm 6))
    (ss_one (s_for (passes_of rfl) rfl (i_enum hK W.n_enumerate (t_vl 3)) (g_tup hK rfl (gs_cons (g_name (i := 8) S.nd rfl (by first | exact Or.inl rfl | exact Or.inr rfl) (congrFun hfx 8)) (gs_cons (g_name (i := 9) S.nd rfl (by first | exact Or.inl rfl | exact Or.inr rfl) (congrFun hfx 9)) (gs_nil)))) (ss_one (s_sto (i := 2) rfl (t_mod (t_sub (t_ixA hK (hu_of hr) (t_nm 2) (t_add hK (t_nm 6) (t_nm 8))) (t_mul hK (t_nm 7) (t_nm 9))) (t_gint i_PRIME)) (t_add hK (t_nm 6) (t_nm 8)))))))))
    (ss_one (s_ret (t_if (tt_eq hK hr.units (t_call (FnY.at hT (y_trimmed W)) hK hM (hr.mono (by decide)) (.inl hG) W.g_trimmed (W.k_trimmed) (ta_cons (t_nm 2) (ta_nil))) (t_lst (ta_nil))) (t_nm 5) (t_non))))))
theorem y_quotient_of (W : Wd K mg base) : FnY P w K mg base (TT K) 5 3 (He.ga K "quotient_of") d_quotient_of := by
  obtain ⟨fd, Fn⟩ := W.F_quotient_of
  exact (a_quotient_of W Fn).y0 (binds_mk Fn fun _ _ _ _ _ _ us hl => match us, hl with | [_, _], _ => rfl)
theorem sc_quotient : FnScope N_quotient ["one", "two"] (defScope s_quotient) := ⟨rfl, rfl, rfl, by decide +kernel, rfl, by decide +kernel, by decide +kernel⟩
theorem a_quotient (W : Wd K mg base) {fd : FuncData} (Fn : Fun K "quotient" "quotient" s_quotient (He.ga K "quotient") fd) : FnA P w K mg base (TT K) 5 4 (He.ga K "quotient") fd ["one", "two"] d_quotient := by
  have S := sc_quotient
  obtain ⟨fdI, FI⟩ := W.FI
  refine fnA_of0 (N := N_quotient) (ps := ["one", "two"]) (k := 3) (fx := fx_quotient) (body := b_quotient) Fn S (fun c A outer s H E hK hM hT hfx hr hG => ?_)
  unfold b_quotient B_quotient
  exact ss_cons (s_expr (t_call (FnY.at hT (y_made_poly W)) hK hM (hr.mono (by decide)) (.inl hG) W.g_made_poly (W.k_made_poly) (ta_cons (t_nm 0) (ta_nil))))
    (ss_cons (s_if (tt_eq hK hr.units (t_call (FnY.at hT (y_trimmed W)) hK hM (hr.mono (by decide)) (.inl hG) W.g_trimmed (W.k_trimmed) (ta_cons (t_call (FnY.at hT (y_made_poly W)) hK hM (hr.mono (by decide)) (.inl hG) W.g_made_poly (W.k_made_poly) (ta_cons (t_nm 1) (ta_nil))) (ta_nil))) (t_lst (ta_nil))) (ss_one (s_raise (W.e_Zero).k W.tI (ri_any W.toFx FI) (hr.mono (by decide)) (bindI FI) rfl hM W.g_Zero (ta_cons (t_vl 1) (ta_nil)))) (ss_nil))
    (ss_cons (s_set (i := 2) S.nd rfl (by first | exact Or.inl rfl | exact Or.inr rfl) (congrFun hfx 2) (t_call (FnY.at hT (y_quotient_of W)) hK hM (hr.mono (by decide)) (.inl hG) W.g_quotient_of (W.k_quotient_of) (ta_cons (t_nm 0) (ta_cons (t_nm 1) (ta_nil)))))
    (ss_one (s_ret (t_if (tt_isN (t_nm 2) (t_non)) (t_non) (t_tuple hK W.n_tuple (t_nm 2)))))))
theorem y_quotient (W : Wd K mg base) : FnY P w K mg base (TT K) 5 4 (He.ga K "quotient") d_quotient := by
  obtain ⟨fd, Fn⟩ := W.F_quotient
  exact (a_quotient W Fn).y0 (binds_mk Fn fun _ _ _ _ _ _ us hl => match us, hl with | [_, _], _ => rfl)
theorem sc_product_of : FnScope N_product_of ["one", "two"] (defScope s_product_of) := ⟨rfl, rfl, rfl, by decide +kernel, rfl, by decide +kernel, by decide +kernel⟩
theorem a_product_of (W : Wd K mg base) {fd : FuncData} (Fn : Fun K "product_of" "product_of" s_product_of (He.ga K "product_of") fd) : FnA P w K mg base (TT K) 5 1 (He.ga K "product_of") fd ["one", "two"] d_product_of := by
  have S := sc_product_of
  obtain ⟨t_PRIME, i_PRIME⟩ := W.i_PRIME
  refine fnA_of0 (N := N_product_of) (ps := ["one", "two"]) (k := 0) (fx := fx_product_of) (body := b_product_of) Fn S (fun c A outer s H E hK hM hT hfx hr hG => ?_)
  unfold b_product_of
  exact ss_cons (s_if (TrW.t (tw_or (tt_eq hK hr.units (t_len hK W.n_len (t_nm 0)) (t_int)) (tw_or1 (tt_eq hK hr.units (t_len hK W.n_len (t_nm 1)) (t_int))))) (ss_one (s_ret (t_lst (ta_nil)))) (ss_nil))
    (ss_cons (s_set (i := 2) S.nd rfl (by first | exact Or.inl rfl | exact Or.inr rfl) (congrFun hfx 2) (t_mul hK (t_lst (ta_cons (t_int) (ta_nil))) (t_sub (t_add hK (t_len hK W.n_len (t_nm 0)) (t_len hK W.n_len (t_nm 1))) (t_int))))
    (ss_cons (s_for (passes_of rfl) rfl (i_enum hK W.n_enumerate (t_vl 0)) (g_tup hK rfl (gs_cons (g_name (i := 3) S.nd rfl (by first | exact Or.inl rfl | exact Or.inr rfl) (congrFun hfx 3)) (gs_cons (g_name (i := 4) S.nd rfl (by first | exact Or.inl rfl | exact Or.inr rfl) (congrFun hfx 4)) (gs_nil)))) (ss_one (s_if (tt_ne hK hr.units (t_nm 4) (t_int)) (ss_one (s_for (passes_of rfl) rfl (i_enum hK W.n_enumerate (t_vl 1)) (g_tup hK rfl (gs_cons (g_name (i := 5) S.nd rfl (by first | exact Or.inl rfl | exact Or.inr rfl) (congrFun hfx 5)) (gs_cons (g_name (i := 6) S.nd rfl (by first | exact Or.inl rfl | exact Or.inr rfl) (congrFun hfx 6)) (gs_nil)))) (ss_one (s_sto (i := 2) rfl (t_mod (t_add hK (t_ixA hK (hu_of hr) (t_nm 2) (t_add hK (t_nm 3) (t_nm 5))) (t_mul hK (t_nm 4) (t_nm 6))) (t_gint i_PRIME)) (t_add hK (t_nm 3) (t_nm 5)))))) (ss_nil))))
    (ss_one (s_ret (t_nm 2)))))
theorem y_product_of (W : Wd K mg base) : FnY P w K mg base (TT K) 5 1 (He.ga K "product_of") d_product_of := by
  obtain ⟨fd, Fn⟩ := W.F_product_of
  exact (a_product_of W Fn).y0 (binds_mk Fn fun _ _ _ _ _ _ us hl => match us, hl with | [_, _], _ => rfl)
theorem sc_times : FnScope N_times ["one", "two"] (defScope s_times) := ⟨rfl, rfl, rfl, by decide +kernel, rfl, by decide +kernel, by decide +kernel⟩
theorem a_times (W : Wd K mg base) {fd : FuncData} (Fn : Fun K "times" "times" s_times (He.ga K "times") fd) : FnA P w K mg base (TT K) 5 4 (He.ga K "times") fd ["one", "two"] d_times := by
  have S := sc_times
  refine fnA_of0 (N := N_times) (ps := ["one", "two"]) (k := 3) (fx := fx_times) (body := b_times) Fn S (fun c A outer s H E hK hM hT hfx hr hG => ?_)
  unfold b_times B_times
  exact ss_cons (s_expr (t_call (FnY.at hT (y_made_poly W)) hK hM (hr.mono (by decide)) (.inl hG) W.g_made_poly (W.k_made_poly) (ta_cons (t_nm 0) (ta_nil))))
    (ss_one (s_ret (t_tuple hK W.n_tuple (t_call (FnY.at hT (y_product_of W)) hK hM (hr.mono (by decide)) (.inl hG) W.g_product_of (W.k_product_of) (ta_cons (t_nm 0) (ta_cons (t_call (FnY.at hT (y_made_poly W)) hK hM (hr.mono (by decide)) (.inl hG) W.g_made_poly (W.k_made_poly) (ta_cons (t_nm 1) (ta_nil))) (ta_nil)))))))
theorem y_times (W : Wd K mg base) : FnY P w K mg base (TT K) 5 4 (He.ga K "times") d_times := by
  obtain ⟨fd, Fn⟩ := W.F_times
  exact (a_times W Fn).y0 (binds_mk Fn fun _ _ _ _ _ _ us hl => match us, hl with | [_, _], _ => rfl)
theorem sc_law_c4_told_right : FnScope N_law_c4_told_right ["a", "b"] (defScope s_law_c4_told_right) := ⟨rfl, rfl, rfl, by decide +kernel, rfl, by decide +kernel, by decide +kernel⟩
theorem a_law_c4_told_right (W : Wd K mg base) {fd : FuncData} (Fn : Fun K "_law_c4_told_right" "_law_c4_told_right" s_law_c4_told_right (He.ga K "_law_c4_told_right") fd) : FnA P w K mg base (TT K) 5 8 (He.ga K "_law_c4_told_right") fd ["a", "b"] d_law_c4_told_right := by
  have S := sc_law_c4_told_right
  refine fnA_of0 (N := N_law_c4_told_right) (ps := ["a", "b"]) (k := 7) (fx := fx_law_c4_told_right) (body := b_law_c4_told_right) Fn S (fun c A outer s H E hK hM hT hfx hr hG => ?_)
  unfold b_law_c4_told_right B_law_c4_told_right
  exact ss_cons (s_asg (t_tup (ta_cons (t_lam (LB := 4) (FnY.at hT (y_law_c4_heard W)) hK hM (hr.mono (by decide)) W.g_law_c4_heard (W.k_law_c4_heard) (W.tb ("_law_c4_told_right", none) (by decide)) (code_of Fn) (by rw [hT]; exact qtab_mem (p := ("_law_c4_told_right", none)) (by decide)) (by rw [hT]; exact qtab_one W.nd (by decide)) (LamX.lamS_by (sc := defScope s_law_c4_told_right) (by decide +kernel)) rfl (fun _ _ _ _ _ => rfl) (fun cl A outer s H E f c' hK hM hTl hG hr => t_call (FnY.at (hTl.trans hT) (y_inverse W)) hK hM (hr.mono (by decide)) (.inl hG) W.g_inverse (W.k_inverse) (ta_cons (t_nm 0) (ta_nil))) (ta_nil)) (ta_cons (t_call (FnY.at hT (y_law_c4_other W)) hK hM (hr.mono (by decide)) (.inl hG) W.g_law_c4_other (W.k_law_c4_other) (ta_cons (t_nm 1) (ta_nil))) (ta_nil)))) (g_tup hK rfl (gs_cons (g_name (i := 2) S.nd rfl (by first | exact Or.inl rfl | exact Or.inr rfl) (congrFun hfx 2)) (gs_cons (g_name (i := 3) S.nd rfl (by first | exact Or.inl rfl | exact Or.inr rfl) (congrFun hfx 3)) (gs_nil)))))
    (ss_cons (s_if (TrW.t (tw_or (tt_ne hK hr.units (t_ixA hK (hu_of hr) (t_nm 2) (t_int)) (t_str)) (tw_or1 (tt_not (tt_val (t_call (FnY.at hT (y_law_c4_is_inverse W)) hK hM (hr.mono (by decide)) (.inl hG) W.g_law_c4_is_inverse (W.k_law_c4_is_inverse) (ta_cons (t_nm 0) (ta_cons (t_ixA hK (hu_of hr) (t_nm 2) (t_int)) (ta_nil))))))))) (ss_one (s_ret (t_bl))) (ss_nil))
    (ss_cons (s_if (TrW.t (tw_or (tt_ne hK hr.units (t_ixA hK (hu_of hr) (t_nm 3) (t_int)) (t_str)) (tw_or1 (tt_not (tt_val (t_call (FnY.at hT (y_law_c4_is_inverse W)) hK hM (hr.mono (by decide)) (.inl hG) W.g_law_c4_is_inverse (W.k_law_c4_is_inverse) (ta_cons (t_nm 1) (ta_cons (t_ixA hK (hu_of hr) (t_nm 3) (t_int)) (ta_nil))))))))) (ss_one (s_ret (t_bl))) (ss_nil))
    (ss_cons (s_if (tt_not (tt_val (t_lam (LB := 4) (FnY.at hT (y_law_c4_tells W)) hK hM (hr.mono (by decide)) W.g_law_c4_tells (W.k_law_c4_tells) (W.tb ("_law_c4_told_right", none) (by decide)) (code_of Fn) (by rw [hT]; exact qtab_mem (p := ("_law_c4_told_right", none)) (by decide)) (by rw [hT]; exact qtab_one W.nd (by decide)) (LamX.lamS_by (sc := defScope s_law_c4_told_right) (by decide +kernel)) rfl (fun _ _ _ _ _ => rfl) (fun cl A outer s H E f c' hK hM hTl hG hr => t_call (FnY.at (hTl.trans hT) (y_inverse W)) hK hM (hr.mono (by decide)) (.inl hG) W.g_inverse (W.k_inverse) (ta_cons (t_ixA hK (hu_of hr) (t_nm 2) (t_int)) (ta_nil))) (ta_cons (t_nm 0) (ta_nil))))) (ss_one (s_ret (t_bl))) (ss_nil))
    (ss_cons (s_set (i := 4) S.nd rfl (by first | exact Or.inl rfl | exact Or.inr rfl) (congrFun hfx 4) (t_mod (t_int1 W.n_int (t_mul hK (t_ixA hK (hu_of hr) (t_nm 2) (t_int)) (t_ixA hK (hu_of hr) (t_nm 3) (t_int)))) (t_int)))
    (ss_cons (s_if (tt_not (tt_val (t_lam (LB := 4) (FnY.at hT (y_law_c4_tells W)) hK hM (hr.mono (by decide)) W.g_law_c4_tells (W.k_law_c4_tells) (W.tb ("_law_c4_told_right", none) (by decide)) (code_of Fn) (by rw [hT]; exact qtab_mem (p := ("_law_c4_told_right", none)) (by decide)) (by rw [hT]; exact qtab_one W.nd (by decide)) (LamX.lamS_by (sc := defScope s_law_c4_told_right) (by decide +kernel)) rfl (fun _ _ _ _ _ => rfl) (fun cl A outer s H E f c' hK hM hTl hG hr => t_call (FnY.at (hTl.trans hT) (y_inverse W)) hK hM (hr.mono (by decide)) (.inl hG) W.g_inverse (W.k_inverse) (ta_cons (t_mod (t_int1 W.n_int (t_mul hK (t_nm 0) (t_nm 1))) (t_int)) (ta_nil))) (ta_cons (t_nm 4) (ta_nil))))) (ss_one (s_ret (t_bl))) (ss_nil))
    (ss_cons (s_if (tt_not (tt_val (t_lam (LB := 4) (FnY.at hT (y_law_c4_tells W)) hK hM (hr.mono (by decide)) W.g_law_c4_tells (W.k_law_c4_tells) (W.tb ("_law_c4_told_right", none) (by decide)) (code_of Fn) (by rw [hT]; exact qtab_mem (p := ("_law_c4_told_right", none)) (by decide)) (by rw [hT]; exact qtab_one W.nd (by decide)) (LamX.lamS_by (sc := defScope s_law_c4_told_right) (by decide +kernel)) rfl (fun _ _ _ _ _ => rfl) (fun cl A outer s H E f c' hK hM hTl hG hr => t_call (FnY.at (hTl.trans hT) (y_inverse W)) hK hM (hr.mono (by decide)) (.inl hG) W.g_inverse (W.k_inverse) (ta_cons (t_sub (t_int) (t_nm 0)) (ta_nil))) (ta_cons (t_sub (t_int) (t_ixA hK (hu_of hr) (t_nm 2) (t_int))) (ta_nil))))) (ss_one (s_ret (t_bl))) (ss_nil))
    (ss_cons (s_if (tt_not (tt_val (t_lam (LB := 4) (FnY.at hT (y_law_c4_tells W)) hK hM (hr.mono (by decide)) W.g_law_c4_tells (W.k_law_c4_tells) (W.tb ("_law_c4_told_right", none) (by decide)) (code_of Fn) (by rw [hT]; exact qtab_mem (p := ("_law_c4_told_right", none)) (by decide)) (by rw [hT]; exact qtab_one W.nd (by decide)) (LamX.lamS_by (sc := defScope s_law_c4_told_right) (by decide +kernel)) rfl (fun _ _ _ _ _ => rfl) (fun cl A outer s H E f c' hK hM hTl hG hr => t_call (FnY.at (hTl.trans hT) (y_quotient W)) hK hM (hr.mono (by decide)) (.inl hG) W.g_quotient (W.k_quotient) (ta_cons (t_tup (ta_cons (t_int) (ta_nil))) (ta_cons (t_tup (ta_cons (t_vl 0) (ta_nil))) (ta_nil)))) (ta_cons (t_tup (ta_cons (t_ixA hK (hu_of hr) (t_nm 2) (t_int)) (ta_nil))) (ta_nil))))) (ss_one (s_ret (t_bl))) (ss_nil))
    (ss_cons (s_if (tt_not (tt_val (t_lam (LB := 4) (FnY.at hT (y_law_c4_tells W)) hK hM (hr.mono (by decide)) W.g_law_c4_tells (W.k_law_c4_tells) (W.tb ("_law_c4_told_right", none) (by decide)) (code_of Fn) (by rw [hT]; exact qtab_mem (p := ("_law_c4_told_right", none)) (by decide)) (by rw [hT]; exact qtab_one W.nd (by decide)) (LamX.lamS_by (sc := defScope s_law_c4_told_right) (by decide +kernel)) rfl (fun _ _ _ _ _ => rfl) (fun cl A outer s H E f c' hK hM hTl hG hr => t_call (FnY.at (hTl.trans hT) (y_quotient W)) hK hM (hr.mono (by decide)) (.inl hG) W.g_quotient (W.k_quotient) (ta_cons (t_tup (ta_cons (t_vl 1) (ta_cons (t_int) (ta_cons (t_vl 1) (ta_nil))))) (ta_cons (t_tup (ta_cons (t_vl 0) (ta_nil))) (ta_nil)))) (ta_cons (t_call (FnY.at hT (y_law_c4_row W)) hK hM (hr.mono (by decide)) (.inl hG) W.g_law_c4_row (W.k_law_c4_row) (ta_cons (t_nm 1) (ta_cons (t_ixA hK (hu_of hr) (t_nm 2) (t_int)) (ta_nil)))) (ta_nil))))) (ss_one (s_ret (t_bl))) (ss_nil))
    (ss_one (s_ret (t_lam (LB := 4) (FnY.at hT (y_law_c4_tells W)) hK hM (hr.mono (by decide)) W.g_law_c4_tells (W.k_law_c4_tells) (W.tb ("_law_c4_told_right", none) (by decide)) (code_of Fn) (by rw [hT]; exact qtab_mem (p := ("_law_c4_told_right", none)) (by decide)) (by rw [hT]; exact qtab_one W.nd (by decide)) (LamX.lamS_by (sc := defScope s_law_c4_told_right) (by decide +kernel)) rfl (fun _ _ _ _ _ => rfl) (fun cl A outer s H E f c' hK hM hTl hG hr => t_call (FnY.at (hTl.trans hT) (y_times W)) hK hM (hr.mono (by decide)) (.inl hG) W.g_times (W.k_times) (ta_cons (t_tup (ta_cons (t_vl 0) (ta_nil))) (ta_cons (t_tup (ta_cons (t_ixA hK (hu_of hr) (t_nm 2) (t_int)) (ta_nil))) (ta_nil)))) (ta_cons (t_tup (ta_cons (t_int) (ta_nil))) (ta_nil)))))))))))))
theorem y_law_c4_told_right (W : Wd K mg base) : FnY P w K mg base (TT K) 5 8 (He.ga K "_law_c4_told_right") d_law_c4_told_right := by
  obtain ⟨fd, Fn⟩ := W.F_law_c4_told_right
  exact (a_law_c4_told_right W Fn).y0 (binds_mk Fn fun _ _ _ _ _ _ us hl => match us, hl with | [_, _], _ => rfl)
theorem sc_law_pool : FnScope N_law_pool ["script"] (defScope s_law_pool) := ⟨rfl, rfl, rfl, by decide +kernel, rfl, by decide +kernel, by decide +kernel⟩
theorem a_law_pool (W : Wd K mg base) {fd : FuncData} (Fn : Fun K "_law_pool" "_law_pool" s_law_pool (He.ga K "_law_pool") fd) : FnA P w K mg base (TT K) 5 1 (He.ga K "_law_pool") fd ["script"] d_law_pool := by
  have S := sc_law_pool
  refine fnA_of0 (N := N_law_pool) (ps := ["script"]) (k := 0) (fx := fx_law_pool) (body := b_law_pool) Fn S (fun c A outer s H E hK hM hT hfx hr hG => ?_)
  unfold b_law_pool
  exact ss_cons (s_asg (t_tup (ta_cons (t_int) (ta_cons (t_int) (ta_nil)))) (g_tup hK rfl (gs_cons (g_name (i := 1) S.nd rfl (by first | exact Or.inl rfl | exact Or.inr rfl) (congrFun hfx 1)) (gs_cons (g_name (i := 2) S.nd rfl (by first | exact Or.inl rfl | exact Or.inr rfl) (congrFun hfx 2)) (gs_nil)))))
    (ss_cons (s_for (passes_of rfl) rfl (i_range1 W.n_range (t_len hK W.n_len (t_nm 0))) (g_name (i := 3) S.nd rfl (by first | exact Or.inl rfl | exact Or.inr rfl) (congrFun hfx 3)) (ss_cons (s_set (i := 4) S.nd rfl (by first | exact Or.inl rfl | exact Or.inr rfl) (congrFun hfx 4) (t_int1 W.n_int (t_max2 rfl W.n_max (t_ixA hK (hu_of hr) (t_nm 0) (t_nm 3)) (t_sub (t_neg (t_int)) (t_ixA hK (hu_of hr) (t_nm 0) (t_nm 3))))))
    (ss_cons (s_set (i := 2) S.nd rfl (by first | exact Or.inl rfl | exact Or.inr rfl) (congrFun hfx 2) (t_mod (t_int1 W.n_int (t_add hK (t_add hK (t_mul hK (t_nm 2) (t_int)) (t_mod (t_nm 4) (t_int))) (t_int))) (t_int)))
    (ss_one (s_set (i := 1) S.nd rfl (by first | exact Or.inl rfl | exact Or.inr rfl) (congrFun hfx 1) (t_if (TrW.t (tw_and (tt_ge (t_nm 4) (t_pow (t_int) (t_int))) (tw_and1 (tt_lt (t_nm 1) (t_pow (t_int) (t_int)))))) (t_int1 W.n_int (t_add hK (t_mul hK (t_nm 1) (t_pow (t_int) (t_int))) (t_mod (t_nm 4) (t_pow (t_int) (t_int))))) (t_vl 1)))))))
    (ss_one (s_ret (t_lst (ta_cons (t_vl 1) (ta_cons (t_vl 2) (ta_cons (t_int) (ta_nil))))))))
theorem y_law_pool (W : Wd K mg base) : FnY P w K mg base (TT K) 5 1 (He.ga K "_law_pool") d_law_pool := by
  obtain ⟨fd, Fn⟩ := W.F_law_pool
  exact (a_law_pool W Fn).y0 (binds_mk Fn fun _ _ _ _ _ _ us hl => match us, hl with | [_], _ => rfl)
theorem sc_law_one : FnScope N_law_one ["jar", "things"] (defScope s_law_one) := ⟨rfl, rfl, rfl, by decide +kernel, rfl, by decide +kernel, by decide +kernel⟩
theorem a_law_one (W : Wd K mg base) {fd : FuncData} (Fn : Fun K "_law_one" "_law_one" s_law_one (He.ga K "_law_one") fd) : FnA P w K mg base (TT K) 5 2 (He.ga K "_law_one") fd ["jar", "things"] d_law_one := by
  have S := sc_law_one
  refine fnA_of0 (N := N_law_one) (ps := ["jar", "things"]) (k := 1) (fx := fx_law_one) (body := b_law_one) Fn S (fun c A outer s H E hK hM hT hfx hr hG => ?_)
  unfold b_law_one B_law_one
  exact ss_one (s_ret (t_ixA hK (hu_of hr) (t_nm 1) (t_call (FnY.at hT (y_law_take W)) hK hM (hr.mono (by decide)) (.inl hG) W.g_law_take (W.k_law_take) (ta_cons (t_nm 0) (ta_cons (t_len hK W.n_len (t_nm 1)) (ta_nil))))))
theorem y_law_one (W : Wd K mg base) : FnY P w K mg base (TT K) 5 2 (He.ga K "_law_one") d_law_one := by
  obtain ⟨fd, Fn⟩ := W.F_law_one
  exact (a_law_one W Fn).y0 (binds_mk Fn fun _ _ _ _ _ _ us hl => match us, hl with | [_, _], _ => rfl)
theorem sc_law_yv_residue : FnScope N_law_yv_residue ["jar"] (defScope s_law_yv_residue) := ⟨rfl, rfl, rfl, by decide +kernel, rfl, by decide +kernel, by decide +kernel⟩
theorem a_law_yv_residue (W : Wd K mg base) {fd : FuncData} (Fn : Fun K "_law_yv_residue" "_law_yv_residue" s_law_yv_residue (He.ga K "_law_yv_residue") fd) : FnA P w K mg base (TT K) 5 3 (He.ga K "_law_yv_residue") fd ["jar"] d_law_yv_residue := by
  have S := sc_law_yv_residue
  refine fnA_of0 (N := N_law_yv_residue) (ps := ["jar"]) (k := 2) (fx := fx_law_yv_residue) (body := b_law_yv_residue) Fn S (fun c A outer s H E hK hM hT hfx hr hG => ?_)
  unfold b_law_yv_residue B_law_yv_residue
  exact ss_cons (s_set (i := 1) S.nd rfl (by first | exact Or.inl rfl | exact Or.inr rfl) (congrFun hfx 1) (t_call (FnY.at hT (y_law_take W)) hK hM (hr.mono (by decide)) (.inl hG) W.g_law_take (W.k_law_take) (ta_cons (t_nm 0) (ta_cons (t_int) (ta_nil)))))
    (ss_cons (s_set (i := 2) S.nd rfl (by first | exact Or.inl rfl | exact Or.inr rfl) (congrFun hfx 2) (t_lst (ta_cons (t_int) (ta_cons (t_int) (ta_cons (t_int) (ta_cons (t_int) (ta_cons (t_int) (ta_cons (t_int) (ta_cons (t_int) (ta_cons (t_int) (ta_cons (t_int) (ta_cons (t_vl 1) (ta_cons (t_sub (t_int) (t_nm 1)) (ta_nil))))))))))))))
    (ss_one (s_ret (t_call (FnY.at hT (y_law_one W)) hK hM (hr.mono (by decide)) (.inl hG) W.g_law_one (W.k_law_one) (ta_cons (t_nm 0) (ta_cons (t_add hK (t_nm 2) (t_mul hK (t_lst (ta_cons (t_mod (t_int1 W.n_int (t_add hK (t_mul hK (t_nm 1) (t_int)) (t_call (FnY.at hT (y_law_take W)) hK hM (hr.mono (by decide)) (.inl hG) W.g_law_take (W.k_law_take) (ta_cons (t_nm 0) (ta_cons (t_int) (ta_nil)))))) (t_int)) (ta_nil))) (t_int))) (ta_nil)))))))
theorem y_law_yv_residue (W : Wd K mg base) : FnY P w K mg base (TT K) 5 3 (He.ga K "_law_yv_residue") d_law_yv_residue := by
  obtain ⟨fd, Fn⟩ := W.F_law_yv_residue
  exact (a_law_yv_residue W Fn).y0 (binds_mk Fn fun _ _ _ _ _ _ us hl => match us, hl with | [_], _ => rfl)
theorem sc_law : FnScope N_law ["script"] (defScope s_law) := ⟨rfl, rfl, rfl, by decide +kernel, rfl, by decide +kernel, by decide +kernel⟩
theorem a_law (W : Wd K mg base) {fd : FuncData} (Fn : Fun K "law" "law" s_law (He.ga K "law") fd) : FnA P w K mg base (TT K) 5 9 (He.ga K "law") fd ["script"] d_law := by
  have S := sc_law
  refine fnA_of0 (N := N_law) (ps := ["script"]) (k := 8) (fx := fx_law) (body := b_law) Fn S (fun c A outer s H E hK hM hT hfx hr hG => ?_)
  unfold b_law B_law
  exact ss_cons (s_set (i := 1) S.nd rfl (by first | exact Or.inl rfl | exact Or.inr rfl) (congrFun hfx 1) (t_call (FnY.at hT (y_law_pool W)) hK hM (hr.mono (by decide)) (.inl hG) W.g_law_pool (W.k_law_pool) (ta_cons (t_nm 0) (ta_nil))))
    (ss_cons (s_for (passes_of rfl) rfl (i_range1 W.n_range (t_int)) (g_name (i := 2) S.nd rfl (by first | exact Or.inl rfl | exact Or.inr rfl) (congrFun hfx 2)) (ss_cons (s_par (i := 3) (j := 4) rfl S.nd rfl rfl (by decide) (congrFun hfx 3) (congrFun hfx 4) rfl rfl (ta_cons (t_max2 rfl W.n_max (t_int) (t_call (FnY.at hT (y_law_yv_residue W)) hK hM (hr.mono (by decide)) (.inl hG) W.g_law_yv_residue (W.k_law_yv_residue) (ta_cons (t_nm 1) (ta_nil)))) (ta_cons (t_max2 rfl W.n_max (t_int) (t_call (FnY.at hT (y_law_yv_residue W)) hK hM (hr.mono (by decide)) (.inl hG) W.g_law_yv_residue (W.k_law_yv_residue) (ta_cons (t_nm 1) (ta_nil)))) (ta_nil))))
    (ss_one (s_if (tt_not (tt_val (t_call (FnY.at hT (y_law_c4_told_right W)) hK hM (hr.mono (by decide)) (.inl hG) W.g_law_c4_told_right (W.k_law_c4_told_right) (ta_cons (t_nm 3) (ta_cons (t_nm 4) (ta_nil)))))) (ss_one (s_ret (t_bl))) (ss_nil)))))
    (ss_cons (s_if (TrW.t (tw_or (tt_not (tt_val (t_call (FnY.at hT (y_law_c4_told_right W)) hK hM (hr.mono (by decide)) (.inl hG) W.g_law_c4_told_right (W.k_law_c4_told_right) (ta_cons (t_int) (ta_cons (t_int) (ta_nil)))))) (tw_or1 (tt_not (tt_val (t_call (FnY.at hT (y_law_c4_told_right W)) hK hM (hr.mono (by decide)) (.inl hG) W.g_law_c4_told_right (W.k_law_c4_told_right) (ta_cons (t_int) (ta_cons (t_int) (ta_nil))))))))) (ss_one (s_ret (t_bl))) (ss_nil))
    (ss_one (s_ret (t_and (t_call (FnY.at hT (y_law_c4_refused_right W)) hK hM (hr.mono (by decide)) (.inl hG) W.g_law_c4_refused_right (W.k_law_c4_refused_right) (ta_cons (t_nm 1) (ta_nil))) (t_one (t_call0 (FnY.at hT (y_law_c4_hand_right W)) hK hM (hr.mono (by decide)) (.inl hG) W.g_law_c4_hand_right (W.k_law_c4_hand_right))))))))
end
/-! ### the head -/
set_option maxHeartbeats 0
def hD (x : Str) (st : Stmt) : He.DefD := ⟨(x, none), x, x, defArgs st, defBody st, defScope st, [], []⟩
def fnR : He.DefD := ⟨("Refused", some "__init__"), "__init__", "Refused.__init__", defArgs s_Rinit, defBody s_Rinit, defScope s_Rinit, [], []⟩
def fn : List He.DefD := fnR :: ([hD "is_residue" s_is_residue, hD "wrong_residues" s_wrong_residues, hD "power" s_power, hD "inverse_of" s_inverse_of, hD "trimmed" s_trimmed, hD "product_of" s_product_of, hD "quotient_of" s_quotient_of, hD "made_poly" s_made_poly, hD "inverse" s_inverse, hD "times" s_times, hD "quotient" s_quotient, hD "_law_pool" s_law_pool, hD "_law_take" s_law_take, hD "_law_one" s_law_one, hD "_law_yv_is_whole" s_law_yv_is_whole, hD "_law_yv_is_in" s_law_yv_is_in, hD "_law_yv_same" s_law_yv_same, hD "_law_yv_is_residue" s_law_yv_is_residue, hD "_law_yv_residue" s_law_yv_residue, hD "_law_c4_heard" s_law_c4_heard, hD "_law_c4_tells" s_law_c4_tells, hD "_law_c4_is_inverse" s_law_c4_is_inverse, hD "_law_c4_told_right" s_law_c4_told_right, hD "_law_c4_other" s_law_c4_other, hD "_law_c4_row" s_law_c4_row] ++ [hD "_law_c4_refused_right" s_law_c4_refused_right, hD "_law_c4_hand_right" s_law_c4_hand_right, hD "law" s_law])
def fa : List He.Fa := [.glo "is_residue", .glo "wrong_residues", .glo "power", .glo "inverse_of", .glo "trimmed", .glo "product_of", .glo "quotient_of", .glo "made_poly", .glo "inverse", .glo "times", .glo "quotient", .glo "_law_pool", .glo "_law_take", .glo "_law_one", .glo "_law_yv_is_whole", .glo "_law_yv_is_in", .glo "_law_yv_same", .glo "_law_yv_is_residue", .glo "_law_yv_residue", .glo "_law_c4_heard", .glo "_law_c4_tells", .glo "_law_c4_is_inverse", .glo "_law_c4_told_right", .glo "_law_c4_other", .glo "_law_c4_row", .glo "_law_c4_refused_right", .glo "_law_c4_hand_right", .glo "law", .glo "Refused", .glo "BadResidue"] ++ [.glo "BadPoly", .glo "Zero", .free "ValueError", .free "bool", .free "enumerate", .free "int", .free "isinstance", .free "len", .free "list", .free "max", .free "range", .free "str", .free "tuple", .int "PRIME" 2147483647, .int "MOST_NUMBERS" 40]
def ex (K : PySem.W.Frag) : Bool := objB K (fI K) && (errs.all (fun x => errB K (fI K) (He.ga K x) && (He.eqO (PySem.W.nsIn K mainGlobals x) (some (some (.ref (He.ga K x)))) && (decide (PySem.W.exmOne K (.ref (He.ga K x)) (.ref (He.ga K "Refused")) = some true) && errs.all fun y => decide (PySem.W.kitOne K (.ref (He.ga K x)) (.ref (He.ga K y)) = some (decide (x = y)))))) && decide ((tf.map fun p => (He.cT K p).2).Nodup))
abbrev R : PySem.W.OpenRow := PySem.W.OpenLaw.row PySem.Challenge.rw_liesborne_k04_inverses
abbrev hk : PySem.W.Hook := He.hookX 8 fa fn [] tf ex
def ob (s : PySem.W.SharedT) : He.AlX := He.obsX 8 fa fn [] tf ex (HandSHeadRun.getT s)
theorem ob_eq (s : PySem.W.SharedT) : ob s = hk.obs s.abs := He.obsX_eq (HandSHeadRun.getT_eq s)
def loose : List PySem.Str := (["__name__", "Refused", "BadResidue", "BadPoly", "Zero", "is_residue", "wrong_residues", "power", "inverse_of", "trimmed", "product_of", "quotient_of", "made_poly", "inverse", "times", "quotient", "_law_pool", "_law_take", "_law_one", "_law_yv_is_whole", "_law_yv_is_in", "_law_yv_same", "_law_yv_is_residue", "_law_yv_residue", "_law_c4_heard", "_law_c4_tells", "_law_c4_is_inverse", "_law_c4_told_right", "_law_c4_other", "_law_c4_row"] : List PySem.Str) ++ (["_law_c4_refused_right", "_law_c4_hand_right", "PRIME", "MOST_NUMBERS"] : List PySem.Str)
theorem run (w : World) : HandSHeadRun.RunEq R (PySem.W.view R.prog [36]) hk ob 4000 loose w := by
  intro os
  kernel_rfl
theorem facts {w : World} {K : PySem.W.Frag} {h h0 : Heap} {mg : Str → Option Value} (X : K.In h) (G : h.Ns mainGlobals mg) (c : He.SaysX fa fn [] tf ex w h0 K) : Fx K mg := by
  have d := c.t.d
  have fs : ∀ {f : He.Fa}, f ∈ fa → f.ok K = true := fun h => d.facts h
  have gl : ∀ x : Str, He.Fa.glo x ∈ fa → mg x = some (.ref (He.ga K x)) := fun x hx => He.glo_ok X G (fs hx)
  obtain ⟨o1, o⟩ := He.ba c.more
  obtain ⟨o2, o3⟩ := He.ba o
  have e2 := fun x hx => He.ba (List.all_eq_true.mp o2 x hx)
  have vI : PySem.W.findCls K (.type "ValueError") (.type "type") "__init__" = some (.val (.builtin "ValueError.__init__")) ∧ PySem.W.typeIn K (.ref (fI K)) = some (.type "function") := by
    unfold objB at o1
    obtain ⟨_, q⟩ := He.ba o1
    obtain ⟨_, q⟩ := He.ba q
    obtain ⟨q1, q2⟩ := He.ba q
    refine ⟨?_, of_decide_eq_true q1⟩
    split at q2
    · rename_i n e
      rw [e, of_decide_eq_true q2]
    · cases q2
  have df : ∀ x : Str, ∀ st : Stmt, hD x st ∈ fn → ∃ fd, Fun K x x st (He.ga K x) fd := fun x st hx => by
    obtain ⟨fd, F⟩ := d.defs hx
    exact ⟨fd, fun_of F⟩
  have kp : ∀ x : Str, ∀ st : Stmt, hD x st ∈ fn → PySem.W.keepIn K (.ref (He.ga K x)) = true := fun x st hx => by
    obtain ⟨fd, F⟩ := d.defs hx
    exact F.kp
  have FI : ∃ fd, Fun K "__init__" "Refused.__init__" s_Rinit (fI K) fd := by
    obtain ⟨fd, F⟩ := d.def_ 0 (d := fnR) rfl
    exact ⟨fd, fun_of F⟩
  have mem : ∀ {f : He.Fa} (i : Nat), fa[i]? = some f → f ∈ fa := fun i h => List.mem_of_getElem? h
  have memD : ∀ {f : He.DefD} (i : Nat), fn[i]? = some f → f ∈ fn := fun i h => List.mem_of_getElem? h
  exact {
    n_ValueError := He.free_ok X G (fs (mem 32 rfl))
    n_bool := He.free_ok X G (fs (mem 33 rfl))
    n_enumerate := He.free_ok X G (fs (mem 34 rfl))
    n_int := He.free_ok X G (fs (mem 35 rfl))
    n_isinstance := He.free_ok X G (fs (mem 36 rfl))
    n_len := He.free_ok X G (fs (mem 37 rfl))
    n_list := He.free_ok X G (fs (mem 38 rfl))
    n_max := He.free_ok X G (fs (mem 39 rfl))
    n_range := He.free_ok X G (fs (mem 40 rfl))
    n_str := He.free_ok X G (fs (mem 41 rfl))
    n_tuple := He.free_ok X G (fs (mem 42 rfl))
    i_PRIME := He.int_ok X G (fs (mem 43 rfl))
    i_MOST_NUMBERS := He.int_ok X G (fs (mem 44 rfl))
    g_Refused := gl _ (mem 28 rfl)
    g_BadResidue := gl _ (mem 29 rfl)
    g_BadPoly := gl _ (mem 30 rfl)
    g_Zero := gl _ (mem 31 rfl)
    g_is_residue := gl _ (mem 0 rfl)
    F_is_residue := df "is_residue" s_is_residue (memD 1 rfl)
    k_is_residue := kp "is_residue" s_is_residue (memD 1 rfl)
    g_wrong_residues := gl _ (mem 1 rfl)
    F_wrong_residues := df "wrong_residues" s_wrong_residues (memD 2 rfl)
    k_wrong_residues := kp "wrong_residues" s_wrong_residues (memD 2 rfl)
    g_power := gl _ (mem 2 rfl)
    F_power := df "power" s_power (memD 3 rfl)
    k_power := kp "power" s_power (memD 3 rfl)
    g_inverse_of := gl _ (mem 3 rfl)
    F_inverse_of := df "inverse_of" s_inverse_of (memD 4 rfl)
    k_inverse_of := kp "inverse_of" s_inverse_of (memD 4 rfl)
    g_trimmed := gl _ (mem 4 rfl)
    F_trimmed := df "trimmed" s_trimmed (memD 5 rfl)
    k_trimmed := kp "trimmed" s_trimmed (memD 5 rfl)
    g_product_of := gl _ (mem 5 rfl)
    F_product_of := df "product_of" s_product_of (memD 6 rfl)
    k_product_of := kp "product_of" s_product_of (memD 6 rfl)
    g_quotient_of := gl _ (mem 6 rfl)
    F_quotient_of := df "quotient_of" s_quotient_of (memD 7 rfl)
    k_quotient_of := kp "quotient_of" s_quotient_of (memD 7 rfl)
    g_made_poly := gl _ (mem 7 rfl)
    F_made_poly := df "made_poly" s_made_poly (memD 8 rfl)
    k_made_poly := kp "made_poly" s_made_poly (memD 8 rfl)
    g_inverse := gl _ (mem 8 rfl)
    F_inverse := df "inverse" s_inverse (memD 9 rfl)
    k_inverse := kp "inverse" s_inverse (memD 9 rfl)
    g_times := gl _ (mem 9 rfl)
    F_times := df "times" s_times (memD 10 rfl)
    k_times := kp "times" s_times (memD 10 rfl)
    g_quotient := gl _ (mem 10 rfl)
    F_quotient := df "quotient" s_quotient (memD 11 rfl)
    k_quotient := kp "quotient" s_quotient (memD 11 rfl)
    g_law_pool := gl _ (mem 11 rfl)
    F_law_pool := df "_law_pool" s_law_pool (memD 12 rfl)
    k_law_pool := kp "_law_pool" s_law_pool (memD 12 rfl)
    g_law_take := gl _ (mem 12 rfl)
    F_law_take := df "_law_take" s_law_take (memD 13 rfl)
    k_law_take := kp "_law_take" s_law_take (memD 13 rfl)
    g_law_one := gl _ (mem 13 rfl)
    F_law_one := df "_law_one" s_law_one (memD 14 rfl)
    k_law_one := kp "_law_one" s_law_one (memD 14 rfl)
    g_law_yv_is_whole := gl _ (mem 14 rfl)
    F_law_yv_is_whole := df "_law_yv_is_whole" s_law_yv_is_whole (memD 15 rfl)
    k_law_yv_is_whole := kp "_law_yv_is_whole" s_law_yv_is_whole (memD 15 rfl)
    g_law_yv_is_in := gl _ (mem 15 rfl)
    F_law_yv_is_in := df "_law_yv_is_in" s_law_yv_is_in (memD 16 rfl)
    k_law_yv_is_in := kp "_law_yv_is_in" s_law_yv_is_in (memD 16 rfl)
    g_law_yv_same := gl _ (mem 16 rfl)
    F_law_yv_same := df "_law_yv_same" s_law_yv_same (memD 17 rfl)
    k_law_yv_same := kp "_law_yv_same" s_law_yv_same (memD 17 rfl)
    g_law_yv_is_residue := gl _ (mem 17 rfl)
    F_law_yv_is_residue := df "_law_yv_is_residue" s_law_yv_is_residue (memD 18 rfl)
    k_law_yv_is_residue := kp "_law_yv_is_residue" s_law_yv_is_residue (memD 18 rfl)
    g_law_yv_residue := gl _ (mem 18 rfl)
    F_law_yv_residue := df "_law_yv_residue" s_law_yv_residue (memD 19 rfl)
    k_law_yv_residue := kp "_law_yv_residue" s_law_yv_residue (memD 19 rfl)
    g_law_c4_heard := gl _ (mem 19 rfl)
    F_law_c4_heard := df "_law_c4_heard" s_law_c4_heard (memD 20 rfl)
    k_law_c4_heard := kp "_law_c4_heard" s_law_c4_heard (memD 20 rfl)
    g_law_c4_tells := gl _ (mem 20 rfl)
    F_law_c4_tells := df "_law_c4_tells" s_law_c4_tells (memD 21 rfl)
    k_law_c4_tells := kp "_law_c4_tells" s_law_c4_tells (memD 21 rfl)
    g_law_c4_is_inverse := gl _ (mem 21 rfl)
    F_law_c4_is_inverse := df "_law_c4_is_inverse" s_law_c4_is_inverse (memD 22 rfl)
    k_law_c4_is_inverse := kp "_law_c4_is_inverse" s_law_c4_is_inverse (memD 22 rfl)
    g_law_c4_told_right := gl _ (mem 22 rfl)
    F_law_c4_told_right := df "_law_c4_told_right" s_law_c4_told_right (memD 23 rfl)
    k_law_c4_told_right := kp "_law_c4_told_right" s_law_c4_told_right (memD 23 rfl)
    g_law_c4_other := gl _ (mem 23 rfl)
    F_law_c4_other := df "_law_c4_other" s_law_c4_other (memD 24 rfl)
    k_law_c4_other := kp "_law_c4_other" s_law_c4_other (memD 24 rfl)
    g_law_c4_row := gl _ (mem 24 rfl)
    F_law_c4_row := df "_law_c4_row" s_law_c4_row (memD 25 rfl)
    k_law_c4_row := kp "_law_c4_row" s_law_c4_row (memD 25 rfl)
    g_law_c4_refused_right := gl _ (mem 25 rfl)
    F_law_c4_refused_right := df "_law_c4_refused_right" s_law_c4_refused_right (memD 26 rfl)
    k_law_c4_refused_right := kp "_law_c4_refused_right" s_law_c4_refused_right (memD 26 rfl)
    g_law_c4_hand_right := gl _ (mem 26 rfl)
    F_law_c4_hand_right := df "_law_c4_hand_right" s_law_c4_hand_right (memD 27 rfl)
    k_law_c4_hand_right := kp "_law_c4_hand_right" s_law_c4_hand_right (memD 27 rfl)
    g_law := gl _ (mem 27 rfl)
    F_law := df "law" s_law (memD 28 rfl)
    k_law := kp "law" s_law (memD 28 rfl)
    FI := FI
    vI := vI.1
    tI := vI.2
    eA := fun x hx => errB_ok o1 (e2 x hx).1
    gA := fun x hx => PySem.W.mg_of X G (He.eqO_ok (He.ba (e2 x hx).2).1)
    xA := fun x hx => of_decide_eq_true (He.ba (He.ba (e2 x hx).2).2).1
    kA := fun x hx y hy => of_decide_eq_true (List.all_eq_true.mp (He.ba (He.ba (e2 x hx).2).2).2 y hy)
    nd := of_decide_eq_true o3 }
theorem law_atK (hden : ∀ ns : List Int, ns.length ≤ 63 → (∀ z ∈ ns, Builtin.Int.intBits z ≤ 1048576) → ∃ ps, d_law [.scr ns] = .ok (.bl true) ps) (w : World) (mg : Str → Option Value) (fa' : Addr) (h : Heap) (Y : hk.says w h) (G : h.Ns mainGlobals mg) (hmg : mg ("law" : Str) = some (.ref fa')) :
    ∃ K : PySem.W.Frag, K.In h ∧ LamX.LawAtS PySem.Challenge.rw_liesborne_k04_inverses w K (L2.CX (PySem.Challenge.rw_liesborne_k04_inverses).prog w) 9 63 "script" mg fa' h := by
  obtain ⟨K, KX, c⟩ := Y
  have W := facts KX G c
  have e := hmg.symm.trans W.g_law
  cases e
  obtain ⟨fd, F⟩ := W.F_law
  refine ⟨K, KX, law_at (T := TT K) (LC := 5) (fd := fd) (cs := tf.map fun p => He.cT K p) (den := d_law) (fun p hp => ?_) (fun p hp => ?_) (fun p hp => ?_) (fun s u => ?_) (fun p hp => ?_) hden fun base h1 h2 h3 => ?_⟩
  · obtain ⟨q, hq, rfl⟩ := List.mem_map.mp hp
    exact c.empty q hq
  · obtain ⟨q, hq, rfl⟩ := List.mem_map.mp hp
    exact c.out q hq
  · obtain ⟨q, hq, rfl⟩ := List.mem_map.mp hp
    exact PySem.W.codeHd_of_K KX (c.hd q hq)
  · obtain ⟨oc, od, kV, doc, pm, an, cdv, ct, osl, rfl, lk, hc⟩ := F.ex
    exact .of_eq rfl
  · obtain ⟨q, hq, rfl⟩ := List.mem_map.mp hp
    exact List.mem_map.mpr ⟨He.cT K q, List.mem_map.mpr ⟨q, hq, rfl⟩, rfl⟩
  · exact a_law ⟨W, fun p hp => h3 _ (List.mem_map.mpr ⟨p, hp, rfl⟩)⟩ F
end Law
end

section
set_option Elab.async false
set_option linter.all false
set_option maxRecDepth 100000
set_option maxHeartbeats 400000
namespace Num
/-! ### 2147483647 is prime; Fermat -/
def okR : Nat → Nat → Bool
  | 0, lo => !decide (2147483647 % lo = 0)
  | k + 1, lo => okR k lo && okR k (lo + 2 ^ k)
theorem okR_all : ∀ (k lo : Nat), okR k lo = true → ∀ d, lo ≤ d → d < lo + 2 ^ k → ¬ 2147483647 % d = 0
  | 0, lo, h, d, h1, h2 => by
    have e : d = lo := by simp at h2; omega
    subst e
    have h : (!decide (2147483647 % d = 0)) = true := h
    simpa using h
  | k + 1, lo, h, d, h1, h2 => by
    have h : (okR k lo && okR k (lo + 2 ^ k)) = true := h
    rw [Bool.and_eq_true] at h
    rw [Nat.pow_succ] at h2
    by_cases hd : d < lo + 2 ^ k
    · exact okR_all k lo h.1 d h1 hd
    · exact okR_all k (lo + 2 ^ k) h.2 d (by omega) (by omega)
theorem okP : okR 16 2 = true := by decide +kernel
def Pr : Nat := 2147483647
theorem pr_dvd {d : Nat} (h : d ∣ 2147483647) : d = 1 ∨ d = 2147483647 := by
  obtain ⟨e, he⟩ := h
  have small : ∀ x y : Nat, 2147483647 = x * y → x ≤ y → x = 1 := fun x y hxy hle => by
    by_cases h1 : x = 1
    · exact h1
    · exfalso
      have h0 : x ≠ 0 := fun z => by rw [z] at hxy; simp at hxy
      have hs : x < 65538 := by
        by_cases hx : x < 65538
        · exact hx
        · have : 65538 * 65538 ≤ x * y := Nat.mul_le_mul (by omega) (by omega)
          omega
      have := okR_all 16 2 okP x (by omega) (by omega)
      exact this (by rw [hxy]; exact Nat.mul_mod_right x y)
  rcases Nat.le_total d e with h | h
  · exact .inl (small d e he h)
  · have := small e d (by rw [he, Nat.mul_comm]) h
    rw [this, Nat.mul_one] at he
    exact .inr he.symm
theorem pr_cop {a : Nat} (h1 : 1 ≤ a) (h2 : a < 2147483647) : Nat.Coprime 2147483647 a := by
  have hd : Nat.gcd 2147483647 a ∣ 2147483647 := Nat.gcd_dvd_left _ _
  rcases pr_dvd hd with h | h
  · exact h
  · have : Nat.gcd 2147483647 a ∣ a := Nat.gcd_dvd_right _ _
    rw [h] at this
    have := Nat.le_of_dvd (by omega) this
    omega
theorem perm_of {l1 : List Nat} : ∀ {l2 : List Nat}, l1.Nodup → (∀ x ∈ l1, x ∈ l2) → l2.length ≤ l1.length → l1.Perm l2 := by
  induction l1 with
  | nil =>
    intro l2 _ _ h
    have : l2 = [] := List.length_eq_zero_iff.mp (by simpa using h)
    rw [this]
  | cons a l1 ih =>
    intro l2 nd sub hl
    have ha : a ∈ l2 := sub a List.mem_cons_self
    have nd' := List.nodup_cons.mp nd
    have hp : l2.Perm (a :: l2.erase a) := List.perm_cons_erase ha
    have hl2 : (l2.erase a).length ≤ l1.length := by
      rw [List.length_erase_of_mem ha]
      simp at hl
      omega
    have := ih (l2 := l2.erase a) nd'.2 (fun x hx => (List.mem_erase_of_ne (fun z => nd'.1 (by rw [← z]; exact hx))).mpr (sub x (List.mem_cons_of_mem _ hx))) hl2
    exact (List.Perm.cons a this).trans hp.symm
theorem dvd_md {x y p : Nat} (h : x ≤ y) (e : x % p = y % p) : p ∣ y - x := Nat.dvd_of_mod_eq_zero (Nat.sub_mod_eq_zero_of_mod_eq e.symm)
theorem md_dvd {x y p : Nat} (h : x ≤ y) (e : p ∣ y - x) : x % p = y % p := by
  obtain ⟨c, hc⟩ := e
  have : y = x + p * c := by omega
  rw [this, Nat.add_mul_mod_self_left]
def prodL : List Nat → Nat
  | [] => 1
  | x :: l => x * prodL l
theorem prod_perm {l1 l2 : List Nat} (h : l1.Perm l2) : prodL l1 = prodL l2 := by
  induction h with
  | nil => rfl
  | cons x _ ih => show x * _ = x * _; rw [ih]
  | swap x y l => show y * (x * _) = x * (y * _); rw [← Nat.mul_assoc, Nat.mul_comm y x, Nat.mul_assoc]
  | trans _ _ h1 h2 => exact h1.trans h2
theorem prod_map (a : Nat) : ∀ l : List Nat, prodL (l.map fun x => a * x % 2147483647) % 2147483647 = a ^ l.length * prodL l % 2147483647
  | [] => rfl
  | x :: l => by
    show (a * x % 2147483647 * prodL (l.map fun x => a * x % 2147483647)) % 2147483647 = a ^ (l.length + 1) * (x * prodL l) % 2147483647
    rw [Nat.mul_mod, prod_map a l, Nat.mod_mod, ← Nat.mul_mod, Nat.pow_succ]
    congr 1
    rw [Nat.mul_assoc (a ^ l.length), Nat.mul_comm (a * x), Nat.mul_assoc, Nat.mul_comm (prodL l), Nat.mul_assoc a]
theorem prod_cop : ∀ l : List Nat, (∀ x ∈ l, Nat.Coprime 2147483647 x) → Nat.Coprime 2147483647 (prodL l)
  | [], _ => by show Nat.gcd 2147483647 1 = 1; simp
  | x :: l, h => Nat.Coprime.mul_right (h x List.mem_cons_self) (prod_cop l fun y hy => h y (List.mem_cons_of_mem _ hy))
theorem fermat {a e : Nat} (he : e = 2147483646) (h1 : 1 ≤ a) (h2 : a < 2147483647) : a ^ e % 2147483647 = 1 := by
  obtain ⟨L, hL⟩ : ∃ L, L = List.range' 1 2147483646 := ⟨_, rfl⟩
  have memL : ∀ x, x ∈ L ↔ 1 ≤ x ∧ x < 2147483647 := fun x => by
    rw [hL, List.mem_range'_1]
  have lenL : L.length = 2147483646 := by rw [hL, List.length_range']
  have ndL : L.Nodup := by rw [hL]; exact List.nodup_range'
  have cop := pr_cop h1 h2
  have inj : ∀ x y, 1 ≤ x → x < 2147483647 → 1 ≤ y → y < 2147483647 → x ≤ y → a * x % 2147483647 = a * y % 2147483647 → x = y := fun x y hx hx2 hy hy2 hle e => by
    have d : 2147483647 ∣ a * y - a * x := dvd_md (Nat.mul_le_mul_left a hle) e
    rw [← Nat.mul_sub] at d
    have d2 := Nat.Coprime.dvd_of_dvd_mul_left cop d
    by_cases z : y - x = 0
    · omega
    · have := Nat.le_of_dvd (by omega) d2
      omega
  have nz : ∀ x, 1 ≤ x → x < 2147483647 → a * x % 2147483647 ≠ 0 := fun x hx hx2 e => by
    have d : 2147483647 ∣ a * x := Nat.dvd_of_mod_eq_zero e
    have d2 := Nat.Coprime.dvd_of_dvd_mul_left cop d
    have := Nat.le_of_dvd (by omega) d2
    omega
  have hp : (L.map fun x => a * x % 2147483647).Perm L := by
    refine perm_of ?_ (fun y hy => ?_) (by simp)
    · refine List.Pairwise.map (R := fun x y => x ∈ L ∧ y ∈ L ∧ x ≠ y) _ (fun x y h e => ?_) ?_
      · obtain ⟨hx, hy, ne⟩ := h
        rcases Nat.le_total x y with hle | hle
        · exact ne (inj x y ((memL x).mp hx).1 ((memL x).mp hx).2 ((memL y).mp hy).1 ((memL y).mp hy).2 hle e)
        · exact ne (inj y x ((memL y).mp hy).1 ((memL y).mp hy).2 ((memL x).mp hx).1 ((memL x).mp hx).2 hle e.symm).symm
      · exact List.Pairwise.imp_of_mem (fun hx hy ne => ⟨hx, hy, ne⟩) ndL
    · obtain ⟨x, hx, rfl⟩ := List.mem_map.mp hy
      have := (memL x).mp hx
      have n := nz x this.1 this.2
      exact (memL _).mpr ⟨Nat.one_le_iff_ne_zero.mpr n, Nat.mod_lt _ (by omega)⟩
  have e1 := prod_map a L
  rw [prod_perm hp, lenL, ← he] at e1
  have c2 : Nat.Coprime 2147483647 (prodL L) := prod_cop L fun x hx => pr_cop ((memL x).mp hx).1 ((memL x).mp hx).2
  have pos : 1 ≤ a ^ e := Nat.one_le_pow _ _ h1
  have d : 2147483647 ∣ a ^ e * prodL L - 1 * prodL L := dvd_md (Nat.mul_le_mul_right _ pos) (by rw [Nat.one_mul]; exact e1)
  rw [← Nat.sub_mul] at d
  have d2 := Nat.Coprime.dvd_of_dvd_mul_right c2 d
  have : 1 % 2147483647 = a ^ e % 2147483647 := md_dvd pos d2
  rw [← this]
end Num
end

section
set_option Elab.async false
set_option linter.all false
set_option maxRecDepth 100000
set_option maxHeartbeats 1000000
namespace Law
open Y
/-! ### loops -/
section
variable {t : Den Bool} {p : SDen} {τ τ1 τ2 : List D} {m : Nat}
theorem sWhile_stop (h : t τ = .ok false τ1) : sWhile (m + 1) t p τ = .nx τ1 := by
  unfold sWhile
  rw [h]
  rfl
theorem sWhile_go (h : t τ = .ok true τ1) (h2 : p τ1 = .nx τ2) : sWhile (m + 1) t p τ = sWhile m t p τ2 := by
  conv => lhs; unfold sWhile
  rw [h]
  simp only [onT, if_true, h2]
theorem sWhile_rt {d : D} (h : t τ = .ok true τ1) (h2 : p τ1 = .rt d τ2) : sWhile (m + 1) t p τ = .rt d τ2 := by
  conv => lhs; unfold sWhile
  rw [h]
  simp only [onT, if_true, h2]
theorem forL_nil {g : D → List D → Option (List D)} : forL g p [] τ = .nx τ := by
  unfold forL
  rfl
end
/-! ### residues, powers -/
theorem mulC_of {a b : Nat} {i j : Int} (hi : i.natAbs < 2 ^ a) (hj : j.natAbs < 2 ^ b) (h : a + b < 1000000) : mulC i j = true := by
  have l : ∀ {n k : Nat}, n < 2 ^ k → n.log2 ≤ k := fun {n k} hn => by
    by_cases z : n = 0
    · subst z
      show Nat.log2 0 ≤ k
      have : Nat.log2 0 = 0 := by decide
      omega
    · exact Nat.le_of_lt ((Nat.log2_lt z).mpr hn)
  have h1 := l hi
  have h2 := l hj
  exact decide_eq_true (by omega)
theorem mulC_r {i j : Int} (hi : i.natAbs < 2147483648) (hj : j.natAbs < 2147483648) : mulC i j = true := mulC_of (a := 31) (b := 31) hi hj (by decide)
theorem is_residue_int (a : Int) : d_is_residue [.int a] = .ok (.bl (decide (0 ≤ a) && decide (a < 2147483647))) [.int a] := by
  by_cases h : 0 ≤ a <;> simp [d_is_residue, b_is_residue, fx_is_residue, nk0, fnD, outD, sq, sRet, sIf, sNil, sExpr, sSet, sPar, sAsg, sSto, putAt, onE, onT, andV, orV, notV, andT, orT, notT, ifE, tst, Rz.bind, nm, vl, cst, bin, uno, chn, dsp, acons, anil, callD, okA, lendD, wbD, runL, mtD, appL, extL, popL, Hdl.get, valsOf, D.nks, D.nk, D.pl, D.pls, D.frz, D.frzs, nkU, isiD, isiB, iop, iopC, ltD, leD, gtD, geD, addD, subD, mulD, modD, fdivD, negD, modC, isND, notND, isNB, ixD, plO, gN, gT, gC, gNo, h]
abbrev pwT : Den Bool := tst (bin gtD (nm 1) (cst (.int 0)))
abbrev pwB : SDen := sq (sSet 2 (ifE (tst (bin eqD (bin modD (nm 1) (cst (.int 2))) (cst (.int 1)))) (bin modD (bin mulD (nm 2) (nm 0)) (cst (.int 2147483647))) (vl 2)))
    (sPar 0 1 (acons (bin modD (bin mulD (nm 0) (nm 0)) (cst (.int 2147483647))) (acons (bin fdivD (nm 1) (cst (.int 2))) (anil))))
theorem pw_body {a e f : Int} (ha : 0 ≤ a ∧ a < 2147483647) (hf : 0 ≤ f ∧ f < 2147483647) : pwB [.int a, .int e, .int f] = .nx [.int (a * a % 2147483647), .int (e / 2), .int (if e % 2 = 1 then f * a % 2147483647 else f)] := by
  have m1 : mulC f a = true := mulC_r (by omega) (by omega)
  have m2 : mulC a a = true := mulC_r (by omega) (by omega)
  have fd : fdivC e 2 = true := rfl
  by_cases h : e % 2 = 1 <;> simp [pwB, nk0, fnD, outD, sq, sRet, sIf, sNil, sExpr, sSet, sPar, sAsg, sSto, putAt, onE, onT, andV, orV, notV, andT, orT, notT, ifE, tst, Rz.bind, nm, vl, cst, bin, uno, chn, dsp, acons, anil, callD, okA, lendD, wbD, runL, mtD, appL, extL, popL, Hdl.get, valsOf, D.nks, D.nk, D.pl, D.pls, D.frz, D.frzs, nkU, isiD, isiB, iop, iopC, ltD, leD, gtD, geD, addD, subD, mulD, modD, fdivD, negD, modC, isND, notND, isNB, ixD, plO, gN, gT, gC, gNo, eqD, eqB, h, m1, m2, fd]
theorem pw_test {a e f : Int} : pwT [.int a, .int e, .int f] = .ok (decide (0 < e)) [.int a, .int e, .int f] := by
  simp [pwT, nk0, fnD, outD, sq, sRet, sIf, sNil, sExpr, sSet, sPar, sAsg, sSto, putAt, onE, onT, andV, orV, notV, andT, orT, notT, ifE, tst, Rz.bind, nm, vl, cst, bin, uno, chn, dsp, acons, anil, callD, okA, lendD, wbD, runL, mtD, appL, extL, popL, Hdl.get, valsOf, D.nks, D.nk, D.pl, D.pls, D.frz, D.frzs, nkU, isiD, isiB, iop, iopC, ltD, leD, gtD, geD, addD, subD, mulD, modD, fdivD, negD, modC, isND, notND, isNB, ixD, plO, gN, gT, gC, gNo]
theorem pw_loop : ∀ (n m e a f : Nat), e < 2 ^ n → n < m → a < 2147483647 → f < 2147483647 → ∃ a' : Int, sWhile m pwT pwB [.int a, .int e, .int f] = .nx [.int a', .int 0, .int ((f * a ^ e % 2147483647 : Nat) : Int)]
  | n, 0, e, a, f, h1, h2, ha, hf => by omega
  | 0, m + 1, e, a, f, h1, h2, ha, hf => by
    have e0 : e = 0 := by simpa using h1
    subst e0
    refine ⟨a, ?_⟩
    rw [sWhile_stop (τ1 := [.int a, .int (0 : Nat), .int f]) (by rw [pw_test]; rfl), Nat.pow_zero, Nat.mul_one, Nat.mod_eq_of_lt hf]
    rfl
  | n + 1, m + 1, e, a, f, h1, h2, ha, hf => by
    by_cases e0 : e = 0
    · subst e0
      refine ⟨a, ?_⟩
      rw [sWhile_stop (τ1 := [.int a, .int (0 : Nat), .int f]) (by rw [pw_test]; rfl), Nat.pow_zero, Nat.mul_one, Nat.mod_eq_of_lt hf]
      rfl
    · have he : e / 2 < 2 ^ n := by rw [Nat.pow_succ] at h1; omega
      obtain ⟨f', hf'⟩ : ∃ f' : Nat, f' = if e % 2 = 1 then f * a % 2147483647 else f := ⟨_, rfl⟩
      have lf : f' < 2147483647 := by
        rw [hf']
        split
        · exact Nat.mod_lt _ (by omega)
        · exact hf
      obtain ⟨a', ih⟩ := pw_loop n m (e / 2) (a * a % 2147483647) f' he (by omega) (Nat.mod_lt _ (by omega)) lf
      refine ⟨a', ?_⟩
      have pos : decide ((0 : Int) < (e : Int)) = true := decide_eq_true (by omega)
      rw [sWhile_go (by rw [pw_test, pos]) (pw_body ⟨by omega, by omega⟩ ⟨by omega, by omega⟩)]
      have c1 : ((a : Int) * a % 2147483647) = ((a * a % 2147483647 : Nat) : Int) := by simp
      have c2 : ((e : Int) / 2) = ((e / 2 : Nat) : Int) := by simp
      have c3 : (if (e : Int) % 2 = 1 then (f : Int) * a % 2147483647 else f) = (f' : Int) := by
        rw [hf']
        by_cases h : e % 2 = 1
        · rw [if_pos h, if_pos (by omega)]
          simp
        · rw [if_neg h, if_neg (by omega)]
      rw [c1, c2, c3, ih]
      have key : f' * (a * a % 2147483647) ^ (e / 2) % 2147483647 = f * a ^ e % 2147483647 := by
        rw [Nat.mul_mod, Nat.pow_mod, Nat.mod_mod, ← Nat.pow_mod, ← Nat.mul_mod]
        have pe : a ^ e = a ^ (e % 2) * (a * a) ^ (e / 2) := by
          rw [← Nat.pow_two, ← Nat.pow_mul, ← Nat.pow_add]
          congr 1
          omega
        rw [pe, hf']
        by_cases h : e % 2 = 1
        · rw [if_pos h, h, Nat.pow_one, ← Nat.mul_assoc, Nat.mod_mul_mod]
        · have h0 : e % 2 = 0 := by omega
          rw [if_neg h, h0, Nat.pow_zero, Nat.one_mul]
      rw [key]
theorem power_int {a e : Nat} (ha : a < 2147483647) (he : e < 2 ^ 64) : d_power [.int a, .int e] = .ok (.int ((a ^ e % 2147483647 : Nat) : Int)) [.un, .un] := by
  obtain ⟨a', h⟩ := pw_loop 64 1000 e a 1 he (by omega) ha (by omega)
  rw [Nat.one_mul] at h
  have h2 : sWhile 1000 pwT pwB [.int a, .int e, .int 1] = .nx [.int a', .int 0, .int ((a ^ e % 2147483647 : Nat) : Int)] := h
  have h3 : b_power [.int a, .int e, .un] = .rt (.int ((a ^ e % 2147483647 : Nat) : Int)) [.int a', .int 0, .un] := by
    show sq (sSet 2 (cst (.int 1))) (sq (sWhile 1000 pwT pwB) (sRet (nm 2))) [.int a, .int e, .un] = _
    simp only [sq, sSet, cst, onE, List.set]
    rw [h2]
    rfl
  show nk0 (fnD 2 3 fx_power b_power) [.int a, .int e] = _
  have h4 : fnD 2 3 fx_power b_power [.int a, .int e] = .ok (.int ((a ^ e % 2147483647 : Nat) : Int)) [.un, .un] := by
    unfold fnD
    rw [if_pos (by rfl)]
    show (match b_power [.int a, .int e, .un] with
      | .nx τ => _
      | .rt d τ => _
      | .ex n d _ => _
      | _ => _) = _
    rw [h3]
    rfl
  unfold nk0
  rw [if_pos (by rfl), h4]
  rfl
theorem o_inverse_of {x v : Int} {g : List D → Rt} (c1 : g [.int x, .int 2147483645] = .ok (.int v) [.un, .un]) : nk0 (fnD 1 1 fx_inverse_of (B_inverse_of g)) [.int x] = .ok (.int v) [.int x] := by
  simp [B_inverse_of, fx_inverse_of, nk0, fnD, outD, sq, sRet, sIf, sNil, sExpr, sSet, sPar, sAsg, sSto, putAt, onE, onT, andV, orV, notV, andT, orT, notT, ifE, tst, Rz.bind, nm, vl, cst, bin, uno, chn, dsp, acons, anil, callD, okA, lendD, wbD, runL, mtD, appL, extL, popL, Hdl.get, valsOf, D.nks, D.nk, D.pl, D.pls, D.frz, D.frzs, nkU, isiD, isiB, iop, iopC, ltD, leD, gtD, geD, addD, subD, mulD, modD, fdivD, negD, modC, isND, notND, isNB, ixD, plO, gN, gT, gC, gNo, c1]
theorem inverse_of_ex {a : Nat} (h1 : 1 ≤ a) (ha : a < 2147483647) : ∃ v : Nat, v < 2147483647 ∧ a * v % 2147483647 = 1 ∧ d_inverse_of [.int a] = .ok (.int v) [.int a] := by
  obtain ⟨e, he⟩ : ∃ e : Nat, e = 2147483645 := ⟨_, rfl⟩
  have hp := power_int (e := e) ha (by rw [he]; decide)
  obtain ⟨v, hv⟩ : ∃ v : Nat, v = a ^ e % 2147483647 := ⟨_, rfl⟩
  have ce : ((e : Nat) : Int) = 2147483645 := by omega
  rw [← hv, ce] at hp
  refine ⟨v, by rw [hv]; exact Nat.mod_lt _ (by omega), ?_, ?_⟩
  · have f := Num.fermat (e := e + 1) (by omega) h1 ha
    rw [hv, Nat.mul_mod, Nat.mod_mod, ← Nat.mul_mod, Nat.mul_comm, ← Nat.pow_succ]
    exact f
  · exact o_inverse_of (g := d_power) hp
/-- the inverse, by its law alone -/
noncomputable def inv (a : Nat) : Nat := if h : 1 ≤ a ∧ a < 2147483647 then Classical.choose (inverse_of_ex h.1 h.2) else 0
theorem inv_spec {a : Nat} (h1 : 1 ≤ a) (ha : a < 2147483647) : inv a < 2147483647 ∧ a * inv a % 2147483647 = 1 ∧ d_inverse_of [.int a] = .ok (.int (inv a)) [.int a] := by
  have e : inv a = Classical.choose (inverse_of_ex h1 ha) := dif_pos ⟨h1, ha⟩
  rw [e]
  exact Classical.choose_spec (inverse_of_ex h1 ha)
theorem inv_pos {a : Nat} (h1 : 1 ≤ a) (ha : a < 2147483647) : 1 ≤ inv a := by
  obtain ⟨_, h, _⟩ := inv_spec h1 ha
  by_cases z : inv a = 0
  · rw [z] at h
    simp at h
  · omega
/-- there is just one -/
theorem inv_one {a x : Nat} (h1 : 1 ≤ a) (ha : a < 2147483647) (hx : x < 2147483647) (h : a * x % 2147483647 = 1) : inv a = x := by
  obtain ⟨l, e, _⟩ := inv_spec h1 ha
  have q1 : inv a * (a * x) % 2147483647 = inv a := by
    rw [Nat.mul_mod, h, Nat.mul_one, Nat.mod_mod, Nat.mod_eq_of_lt l]
  have q2 : inv a * (a * x) % 2147483647 = x := by
    rw [← Nat.mul_assoc, Nat.mul_comm (inv a) a, Nat.mul_mod, e, Nat.one_mul, Nat.mod_mod, Nat.mod_eq_of_lt hx]
  rw [← q1, q2]
end Law
end

section
set_option Elab.async false
set_option linter.all false
set_option maxRecDepth 100000
set_option maxHeartbeats 1000000
namespace Law
open Y
theorem o_inverse {x y : Int} {g1 g2 : List D → Rt} (h0 : ¬ x = 0) (c1 : g1 [.int x] = .ok (.bl (true && true)) [.int x]) (c2 : g2 [.int x] = .ok (.int y) [.int x]) : nk0 (fnD 1 1 fx_inverse (B_inverse g2 g1)) [.int x] = .ok (.int y) [.int x] := by
  simp [B_inverse, fx_inverse, nk0, fnD, outD, sq, sRet, sIf, sNil, sExpr, sSet, sPar, sAsg, sSto, putAt, onE, onT, andV, orV, notV, andT, orT, notT, ifE, tst, Rz.bind, nm, vl, cst, bin, uno, chn, dsp, acons, anil, callD, okA, lendD, wbD, runL, mtD, appL, extL, popL, Hdl.get, valsOf, D.nks, D.nk, D.pl, D.pls, D.frz, D.frzs, nkU, isiD, isiB, iop, iopC, ltD, leD, gtD, geD, addD, subD, mulD, modD, fdivD, negD, modC, isND, notND, isNB, ixD, plO, gN, gT, gC, gNo, c1, c2, eqD, eqB, h0]
theorem inverse_int {a : Nat} (h1 : 1 ≤ a) (ha : a < 2147483647) : d_inverse [.int a] = .ok (.int (inv a)) [.int a] := by
  have hn : decide (0 ≤ (a : Int)) = true := decide_eq_true (by omega)
  have hd : decide ((a : Int) < 2147483647) = true := decide_eq_true (by omega)
  have c1 := is_residue_int a
  rw [hn, hd] at c1
  exact o_inverse (g1 := d_is_residue) (g2 := d_inverse_of) (by omega) c1 (inv_spec h1 ha).2.2
/-! ### what is heard -/
theorem heard_tok {d : D} (h : d.nk = true) : d_law_c4_heard [.tok d] = .ok (.tup [.str "told", d]) [.tok d] := by
  simp [d_law_c4_heard, b_law_c4_heard, fx_law_c4_heard, nk0, fnD, outD, sq, sRet, sIf, sNil, sExpr, sSet, sPar, sAsg, sSto, putAt, onE, onT, andV, orV, notV, andT, orT, notT, ifE, tst, Rz.bind, nm, vl, cst, bin, uno, chn, dsp, acons, anil, callD, okA, lendD, wbD, runL, mtD, appL, extL, popL, Hdl.get, valsOf, D.nks, D.nk, D.pl, D.pls, D.frz, D.frzs, nkU, isiD, isiB, iop, iopC, ltD, leD, gtD, geD, addD, subD, mulD, modD, fdivD, negD, modC, isND, notND, isNB, ixD, plO, gN, gT, gC, gNo, sTry, cloD, h]
theorem heard_tex {n : PySem.Str} {d : D} (hn : subE n = some true) (h : d.nk = true) : d_law_c4_heard [.tex n d] = .ok (.tup [.str (if n = "BadResidue" then "BadResidue" else "another"), d]) [.tex n d] := by
  by_cases e : n = "BadResidue"
  · subst e
    simp [d_law_c4_heard, b_law_c4_heard, fx_law_c4_heard, nk0, fnD, outD, sq, sRet, sIf, sNil, sExpr, sSet, sPar, sAsg, sSto, putAt, onE, onT, andV, orV, notV, andT, orT, notT, ifE, tst, Rz.bind, nm, vl, cst, bin, uno, chn, dsp, acons, anil, callD, okA, lendD, wbD, runL, mtD, appL, extL, popL, Hdl.get, valsOf, D.nks, D.nk, D.pl, D.pls, D.frz, D.frzs, nkU, isiD, isiB, iop, iopC, ltD, leD, gtD, geD, addD, subD, mulD, modD, fdivD, negD, modC, isND, notND, isNB, ixD, plO, gN, gT, gC, gNo, sTry, cloD, h, hn]
  · simp [d_law_c4_heard, b_law_c4_heard, fx_law_c4_heard, nk0, fnD, outD, sq, sRet, sIf, sNil, sExpr, sSet, sPar, sAsg, sSto, putAt, onE, onT, andV, orV, notV, andT, orT, notT, ifE, tst, Rz.bind, nm, vl, cst, bin, uno, chn, dsp, acons, anil, callD, okA, lendD, wbD, runL, mtD, appL, extL, popL, Hdl.get, valsOf, D.nks, D.nk, D.pl, D.pls, D.frz, D.frzs, nkU, isiD, isiB, iop, iopC, ltD, leD, gtD, geD, addD, subD, mulD, modD, fdivD, negD, modC, isND, notND, isNB, ixD, plO, gN, gT, gC, gNo, sTry, cloD, h, hn, e]
end Law
end

section
set_option Elab.async false
set_option linter.all false
set_option maxRecDepth 100000
set_option maxHeartbeats 1000000
namespace Law
open Y
/-! ### a thing is the same as itself -/
mutual
def gd : D → Bool
  | .non => true
  | .bl _ => true
  | .int _ => true
  | .str _ => true
  | .tup ds => gds ds
  | .lst false ds => gds ds
  | _ => false
def gds : List D → Bool
  | [] => true
  | d :: ds => gd d && gds ds
end
mutual
def sz : D → Nat
  | .tup ds => szs ds + 1
  | .lst _ ds => szs ds + 1
  | _ => 1
def szs : List D → Nat
  | [] => 0
  | d :: ds => sz d + szs ds
end
theorem gds_append : ∀ {xs ys : List D}, gds (xs ++ ys) = (gds xs && gds ys)
  | [], ys => by simp [gds]
  | x :: xs, ys => by
    show (gd x && gds (xs ++ ys)) = (gd x && gds xs && gds ys)
    rw [gds_append, Bool.and_assoc]
theorem szs_append : ∀ {xs ys : List D}, szs (xs ++ ys) = szs xs + szs ys
  | [], ys => by simp [szs]
  | x :: xs, ys => by
    show sz x + szs (xs ++ ys) = sz x + szs xs + szs ys
    rw [szs_append, Nat.add_assoc]
theorem sz_pos : ∀ d : D, 1 ≤ sz d := fun d => by
  cases d <;> simp [sz]
theorem szs_len : ∀ ds : List D, ds.length ≤ szs ds
  | [] => Nat.le_refl _
  | d :: ds => by
    have := szs_len ds
    have := sz_pos d
    simp [szs]
    omega
mutual
theorem gd_pl : ∀ {d : D}, gd d = true → d.pl = true
  | .non, _ => rfl
  | .bl _, _ => rfl
  | .int _, _ => rfl
  | .str _, _ => rfl
  | .tup ds, h => by
    show D.pls ds = true
    exact gds_pl h
  | .lst false ds, h => by
    show D.pls ds = true
    exact gds_pl h
theorem gds_pl : ∀ {ds : List D}, gds ds = true → D.pls ds = true
  | [], _ => rfl
  | d :: ds, h => by
    have h : (gd d && gds ds) = true := h
    rw [Bool.and_eq_true] at h
    show (d.pl && D.pls ds) = true
    rw [gd_pl h.1, gds_pl h.2]
    rfl
end
theorem gds_at : ∀ {ds : List D} {d : D}, gds ds = true → d ∈ ds → gd d = true
  | x :: ds, d, h, hd => by
    have h : (gd x && gds ds) = true := h
    rw [Bool.and_eq_true] at h
    rcases List.mem_cons.mp hd with rfl | hd
    · exact h.1
    · exact gds_at h.2 hd
abbrev smT : Den Bool := tst (bin neD (nm 2) (dsp (.lst true) (anil)))
abbrev smF : Den Hdl := dsp .tup (acons (bin ixD (nm 3) (nm 6)) (acons (bin ixD (nm 4) (nm 6)) (anil)))
abbrev smB (g_law_yv_is_whole : List D → Rt) : SDen := sq (sAsg (runL popL 2 []) (gT 2 (gC (gN 3) (gC (gN 4) (gNo)))))
    (sq (sIf (tst (bin isND (nm 4) (cst .non))) (sSet 5 (bin isND (nm 3) (cst .non))) (sIf (tst (uno (isiD "bool") (nm 4))) (sSet 5 (andV (uno (isiD "bool") (nm 3)) (bin eqD (nm 3) (nm 4)))) (sIf (tst (uno (isiD "int") (nm 4))) (sSet 5 (andV (callD g_law_yv_is_whole (acons (nm 3) (anil))) (bin eqD (nm 3) (nm 4)))) (sIf (tst (uno (isiD "str") (nm 4))) (sSet 5 (andV (uno (isiD "str") (nm 3)) (bin eqD (nm 3) (nm 4)))) (sq (sSet 5 (ifE (tst (uno (isiD "tuple") (nm 4))) (uno (isiD "tuple") (nm 3)) (uno (isiD "list") (nm 3))))
    (sq (sSet 5 (andV (vl 5) (bin eqD (uno lenD (nm 3)) (uno lenD (nm 4)))))
    (sExpr (mtD extL 2 (acons (ifE (tst (nm 5)) (lcE (rgS1 (uno lenD (nm 4))) (gN 6) (yesT) smF [6]) (dsp (.lst true) (anil))) (anil))))))))))
    (sIf (notT (tst (nm 5))) (sRet (cst (.bl false))) (sNil)))
abbrev pr (d : D) : D := .tup [d, d]
section
variable {g : List D → Rt} {h o a3 a4 a5 a6 : D} {xs : List D}
theorem sm_int (i : Int) (c1 : g [.int i] = .ok (.bl true) [.int i]) : smB g [h, o, .lst true (xs ++ [pr (.int i)]), a3, a4, a5, a6] = .nx [h, o, .lst true xs, .int i, .int i, .bl true, a6] := by
  simp [smB, pr, nk0, fnD, outD, sq, sRet, sIf, sNil, sExpr, sSet, sPar, sAsg, sSto, putAt, onE, onT, andV, orV, notV, andT, orT, notT, ifE, tst, Rz.bind, nm, vl, cst, bin, uno, chn, dsp, acons, anil, callD, okA, lendD, wbD, runL, mtD, appL, extL, popL, Hdl.get, valsOf, D.nks, D.nk, D.pl, D.pls, D.frz, D.frzs, nkU, isiD, isiB, iop, iopC, ltD, leD, gtD, geD, addD, subD, mulD, modD, fdivD, negD, modC, isND, notND, isNB, ixD, plO, gN, gT, gC, gNo, eqD, eqB, c1]
theorem sm_str (i : PySem.Str) : smB g [h, o, .lst true (xs ++ [pr (.str i)]), a3, a4, a5, a6] = .nx [h, o, .lst true xs, .str i, .str i, .bl true, a6] := by
  simp [smB, pr, nk0, fnD, outD, sq, sRet, sIf, sNil, sExpr, sSet, sPar, sAsg, sSto, putAt, onE, onT, andV, orV, notV, andT, orT, notT, ifE, tst, Rz.bind, nm, vl, cst, bin, uno, chn, dsp, acons, anil, callD, okA, lendD, wbD, runL, mtD, appL, extL, popL, Hdl.get, valsOf, D.nks, D.nk, D.pl, D.pls, D.frz, D.frzs, nkU, isiD, isiB, iop, iopC, ltD, leD, gtD, geD, addD, subD, mulD, modD, fdivD, negD, modC, isND, notND, isNB, ixD, plO, gN, gT, gC, gNo, eqD, eqB]
theorem eq_bl (b : Bool) : eqD (.bl b) (.bl b) = some (.bl true) := by cases b <;> rfl
theorem sm_bl (b : Bool) : smB g [h, o, .lst true (xs ++ [pr (.bl b)]), a3, a4, a5, a6] = .nx [h, o, .lst true xs, .bl b, .bl b, .bl true, a6] := by
  simp [smB, pr, nk0, fnD, outD, sq, sRet, sIf, sNil, sExpr, sSet, sPar, sAsg, sSto, putAt, onE, onT, andV, orV, notV, andT, orT, notT, ifE, tst, Rz.bind, nm, vl, cst, bin, uno, chn, dsp, acons, anil, callD, okA, lendD, wbD, runL, mtD, appL, extL, popL, Hdl.get, valsOf, D.nks, D.nk, D.pl, D.pls, D.frz, D.frzs, nkU, isiD, isiB, iop, iopC, ltD, leD, gtD, geD, addD, subD, mulD, modD, fdivD, negD, modC, isND, notND, isNB, ixD, plO, gN, gT, gC, gNo, eq_bl]
theorem sm_non : smB g [h, o, .lst true (xs ++ [pr .non]), a3, a4, a5, a6] = .nx [h, o, .lst true xs, .non, .non, .bl true, a6] := by
  simp [smB, pr, nk0, fnD, outD, sq, sRet, sIf, sNil, sExpr, sSet, sPar, sAsg, sSto, putAt, onE, onT, andV, orV, notV, andT, orT, notT, ifE, tst, Rz.bind, nm, vl, cst, bin, uno, chn, dsp, acons, anil, callD, okA, lendD, wbD, runL, mtD, appL, extL, popL, Hdl.get, valsOf, D.nks, D.nk, D.pl, D.pls, D.frz, D.frzs, nkU, isiD, isiB, iop, iopC, ltD, leD, gtD, geD, addD, subD, mulD, modD, fdivD, negD, modC, isND, notND, isNB, ixD, plO, gN, gT, gC, gNo]
theorem lc_pairs {ds : List D} {q s5 : D} (hq : ∀ i : Nat, i < ds.length → ixD q (.int (i : Int)) = ds[i]?) : ∀ (js : List Nat) (acc : List D) (s6 : D), (∀ j ∈ js, j < ds.length) → acc.length + js.length ≤ 100000 →
    ∃ s6', lcL (gN 6) yesT smF [6] (js.map fun j => .int (0 + (j : Nat) * 1)) acc [h, o, a3, q, q, s5, s6] = .ok (acc ++ js.map fun j => pr (ds[j]?.getD .un)) [h, o, a3, q, q, s5, s6']
  | [], acc, s6, hj, hl => ⟨s6, by simp [lcL]⟩
  | j :: js, acc, s6, hj, hl => by
    have hj0 : j < ds.length := hj j List.mem_cons_self
    have e1 := hq j hj0
    rw [List.getElem?_eq_getElem hj0] at e1
    have hl0 : acc.length ≤ 100000 := by simp at hl; omega
    obtain ⟨s6', ih⟩ := lc_pairs hq js (acc ++ [pr ds[j]]) (.int (j : Int)) (fun k hk => hj k (List.mem_cons_of_mem _ hk)) (by simp at hl ⊢; omega)
    refine ⟨s6', ?_⟩
    rw [List.append_assoc] at ih
    have e2 : [pr ds[j]] ++ js.map (fun j => pr (ds[j]?.getD .un)) = (j :: js).map fun j => pr (ds[j]?.getD .un) := by
      simp [List.getElem?_eq_getElem hj0]
    rw [e2] at ih
    rw [← ih, List.map_cons]
    conv => lhs; unfold lcL
    have e3 : (0 : Int) + (j : Int) * 1 = (j : Int) := by omega
    have e4 : ∀ x : D, (dsp .tup (acons (bin ixD (nm 3) (nm 6)) (acons (bin ixD (nm 4) (nm 6)) (anil)))) [h, o, a3, q, q, s5, .int (j : Int)] = (match q with
      | .un => .bad
      | _ => .ok (.val (pr ds[j])) [h, o, a3, q, q, s5, .int (j : Int)]) := fun x => by
      cases q <;> simp [dsp, acons, bin, nm, anil, Rz.bind, Hdl.get, e1, valsOf, pr]
    have nq : q ≠ .un := fun z => by
      rw [z] at e1
      cases e1
    have e5 : smF [h, o, a3, q, q, s5, .int (j : Int)] = .ok (.val (pr ds[j])) [h, o, a3, q, q, s5, .int (j : Int)] := by
      rw [show smF [h, o, a3, q, q, s5, .int (j : Int)] = _ from e4 .un]
      cases q <;> first | rfl | exact absurd rfl nq
    simp only [wipeD, gN, List.set, e3, yesT, e5, hl0, if_true]
theorem range_pairs (ds : List D) : (List.range ds.length).map (fun j => pr (ds[j]?.getD .un)) = ds.map pr := by
  apply List.ext_getElem (by simp)
  intro i h1 h2
  simp at h1 h2 ⊢
  simp [List.getElem?_eq_getElem h2]
theorem lc_all {ds : List D} {q s5 s6 : D} (hq : ∀ i : Nat, i < ds.length → ixD q (.int (i : Int)) = ds[i]?) (hlen : lenD q = some (.int ds.length)) (hl : ds.length ≤ 1000) :
    ∃ s6', lcE (rgS1 (uno lenD (nm 4))) (gN 6) (yesT) smF [6] [h, o, a3, q, q, s5, s6] = .ok (.val (.lst true (ds.map pr))) [h, o, a3, q, q, s5, s6'] := by
  obtain ⟨s6', e⟩ := lc_pairs (h := h) (o := o) (a3 := a3) (s5 := s5) hq (List.range ds.length) [] s6 (fun j hj => List.mem_range.mp hj) (by simp; omega)
  rw [range_pairs, List.nil_append] at e
  have nq : q ≠ .un := fun z => by
    rw [z] at hlen
    cases hlen
  have e1 : rgS1 (uno lenD (nm 4)) [h, o, a3, q, q, s5, s6] = .ok (rgD 0 1 ds.length) [h, o, a3, q, q, s5, s6] := by
    have e0 : uno lenD (nm 4) [h, o, a3, q, q, s5, s6] = .ok (.val (.int ds.length)) [h, o, a3, q, q, s5, s6] := by
      cases q <;> first | exact absurd rfl nq | simp [uno, nm, Rz.bind, Hdl.get, hlen]
    unfold rgS1
    rw [e0]
    have e2 : intOf (.val (.int (ds.length : Int))) [h, o, a3, q, q, s5, s6] = some (ds.length : Int) := by
      have : inRg (ds.length : Int) = true := by
        unfold inRg
        rw [Bool.and_eq_true]
        exact ⟨decide_eq_true (by omega), decide_eq_true (by omega)⟩
      show (if inRg (ds.length : Int) = true then _ else _) = _
      rw [if_pos this]
    simp only [Rz.bind, e2, Int.toNat_natCast]
  have e3 : rgD 0 1 ds.length = (List.range ds.length).map fun j => .int (0 + (j : Nat) * 1) := rfl
  unfold lcE
  rw [e1]
  dsimp only
  rw [e3, e]
  exact ⟨if s6.pl then s6 else .un, rfl⟩
theorem eq_len (n : Nat) : eqD (.int n) (.int n) = some (.bl true) := by simp [eqD, eqB]
theorem sm_tup {ds : List D} (hd : gds ds = true) (hl : ds.length ≤ 1000) (hx : xs.length ≤ 50000) : ∃ s6', smB g [h, o, .lst true (xs ++ [pr (.tup ds)]), a3, a4, a5, a6] = .nx [h, o, .lst true (xs ++ ds.map pr), .tup ds, .tup ds, .bl true, s6'] := by
  have pl : ∀ d ∈ ds, d.pl = true := fun d hd' => gd_pl (gds_at hd hd')
  obtain ⟨s6', e⟩ := lc_all (h := h) (o := o) (a3 := .lst true xs) (q := .tup ds) (s5 := .bl true) (s6 := a6) (ds := ds) (fun i hi => by
    show plO (L2.atI ds (i : Int)) = _
    rw [L2.atI_nat (List.getElem?_eq_getElem hi), List.getElem?_eq_getElem hi]
    simp [plO, pl _ (List.getElem_mem hi)]) rfl hl
  refine ⟨s6', ?_⟩
  have hx2 : xs.length + ds.length ≤ 100000 := by omega
  simp [smB, pr, nk0, fnD, outD, sq, sRet, sIf, sNil, sExpr, sSet, sPar, sAsg, sSto, putAt, onE, onT, andV, orV, notV, andT, orT, notT, ifE, tst, Rz.bind, nm, vl, cst, bin, uno, chn, dsp, acons, anil, callD, okA, lendD, wbD, runL, mtD, appL, extL, popL, Hdl.get, valsOf, D.nks, D.nk, D.pl, D.pls, D.frz, D.frzs, nkU, isiD, isiB, iop, iopC, ltD, leD, gtD, geD, addD, subD, mulD, modD, fdivD, negD, modC, isND, notND, isNB, ixD, plO, gN, gT, gC, gNo, eqD, eqB, lenD, e, hx2]
theorem sm_lst {ds : List D} (hd : gds ds = true) (hl : ds.length ≤ 1000) (hx : xs.length ≤ 50000) : ∃ s6', smB g [h, o, .lst true (xs ++ [pr (.lst false ds)]), a3, a4, a5, a6] = .nx [h, o, .lst true (xs ++ ds.map pr), .lst false ds, .lst false ds, .bl true, s6'] := by
  have pl : ∀ d ∈ ds, d.pl = true := fun d hd' => gd_pl (gds_at hd hd')
  obtain ⟨s6', e⟩ := lc_all (h := h) (o := o) (a3 := .lst true xs) (q := .lst false ds) (s5 := .bl true) (s6 := a6) (ds := ds) (fun i hi => by
    show plO (L2.atI ds (i : Int)) = _
    rw [L2.atI_nat (List.getElem?_eq_getElem hi), List.getElem?_eq_getElem hi]
    simp [plO, pl _ (List.getElem_mem hi)]) rfl hl
  refine ⟨s6', ?_⟩
  have hx2 : xs.length + ds.length ≤ 100000 := by omega
  simp [smB, pr, nk0, fnD, outD, sq, sRet, sIf, sNil, sExpr, sSet, sPar, sAsg, sSto, putAt, onE, onT, andV, orV, notV, andT, orT, notT, ifE, tst, Rz.bind, nm, vl, cst, bin, uno, chn, dsp, acons, anil, callD, okA, lendD, wbD, runL, mtD, appL, extL, popL, Hdl.get, valsOf, D.nks, D.nk, D.pl, D.pls, D.frz, D.frzs, nkU, isiD, isiB, iop, iopC, ltD, leD, gtD, geD, addD, subD, mulD, modD, fdivD, negD, modC, isND, notND, isNB, ixD, plO, gN, gT, gC, gNo, eqD, eqB, lenD, e, hx2]
theorem sm_test {ts : List D} : smT [h, o, .lst true (ts.map pr), a3, a4, a5, a6] = .ok (!ts.isEmpty) [h, o, .lst true (ts.map pr), a3, a4, a5, a6] := by
  cases ts with
  | nil =>
    have : neD (.lst true ([] : List D)) (.lst true []) = some (.bl false) := rfl
    simp [smT, nk0, fnD, outD, sq, sRet, sIf, sNil, sExpr, sSet, sPar, sAsg, sSto, putAt, onE, onT, andV, orV, notV, andT, orT, notT, ifE, tst, Rz.bind, nm, vl, cst, bin, uno, chn, dsp, acons, anil, callD, okA, lendD, wbD, runL, mtD, appL, extL, popL, Hdl.get, valsOf, D.nks, D.nk, D.pl, D.pls, D.frz, D.frzs, nkU, isiD, isiB, iop, iopC, ltD, leD, gtD, geD, addD, subD, mulD, modD, fdivD, negD, modC, isND, notND, isNB, ixD, plO, gN, gT, gC, gNo, this]
  | cons t ts =>
    have : neD (.lst true ((t :: ts).map pr)) (.lst true []) = some (.bl true) := by simp [neD, eqB]
    have e2 : ((t :: ts).map pr) = pr t :: ts.map pr := rfl
    rw [e2] at this
    simp [smT, nk0, fnD, outD, sq, sRet, sIf, sNil, sExpr, sSet, sPar, sAsg, sSto, putAt, onE, onT, andV, orV, notV, andT, orT, notT, ifE, tst, Rz.bind, nm, vl, cst, bin, uno, chn, dsp, acons, anil, callD, okA, lendD, wbD, runL, mtD, appL, extL, popL, Hdl.get, valsOf, D.nks, D.nk, D.pl, D.pls, D.frz, D.frzs, nkU, isiD, isiB, iop, iopC, ltD, leD, gtD, geD, addD, subD, mulD, modD, fdivD, negD, modC, isND, notND, isNB, ixD, plO, gN, gT, gC, gNo, this]
theorem sm_loop (c1 : ∀ i : Int, g [.int i] = .ok (.bl true) [.int i]) : ∀ (m : Nat) (ts : List D) (a3 a4 a5 a6 : D), gds ts = true → szs ts < m → szs ts ≤ 1000 → ∃ b3 b4 b5 b6, sWhile m smT (smB g) [h, o, .lst true (ts.map pr), a3, a4, a5, a6] = .nx [h, o, .lst true [], b3, b4, b5, b6]
  | 0, ts, a3, a4, a5, a6, hg, hm, hz => by omega
  | m + 1, ts, a3, a4, a5, a6, hg, hm, hz => by
    rcases List.eq_nil_or_concat ts with rfl | ⟨us, d, rfl⟩
    · exact ⟨a3, a4, a5, a6, sWhile_stop (sm_test (ts := []))⟩
    · rw [List.concat_eq_append] at hg hm hz ⊢
      rw [gds_append, Bool.and_eq_true] at hg
      have hd : gd d = true := by
        have : (gd d && true) = true := hg.2
        simpa using this
      have es : szs (us ++ [d]) = szs us + sz d := by rw [szs_append]; simp [szs]
      rw [es] at hm hz
      have em : (us ++ [d]).map pr = us.map pr ++ [pr d] := by simp
      have ht := sm_test (h := h) (o := o) (a3 := a3) (a4 := a4) (a5 := a5) (a6 := a6) (ts := us ++ [d])
      have ne : (!(us ++ [d]).isEmpty) = true := by simp
      rw [ne, em] at ht
      rw [em]
      have sp := sz_pos d
      have fin : ∀ (vs : List D) (b3 b4 b5 b6 : D), gds vs = true → szs vs < sz d → smB g [h, o, .lst true (us.map pr ++ [pr d]), a3, a4, a5, a6] = .nx [h, o, .lst true ((us ++ vs).map pr), b3, b4, b5, b6] →
          ∃ b3 b4 b5 b6, sWhile (m + 1) smT (smB g) [h, o, .lst true (us.map pr ++ [pr d]), a3, a4, a5, a6] = .nx [h, o, .lst true [], b3, b4, b5, b6] := fun vs b3 b4 b5 b6 hv hs e => by
        rw [sWhile_go ht e]
        exact sm_loop c1 m (us ++ vs) b3 b4 b5 b6 (by rw [gds_append, hg.1, hv]; rfl) (by rw [szs_append]; omega) (by rw [szs_append]; omega)
      have lu := szs_len us
      cases d with
      | un => cases hd
      | scr _ => cases hd
      | tok _ => cases hd
      | tex _ _ => cases hd
      | dct _ _ _ => cases hd
      | non => exact fin [] _ _ _ _ rfl (by simp [szs, sz]) (by rw [List.append_nil]; exact sm_non)
      | bl b => exact fin [] _ _ _ _ rfl (by simp [szs, sz]) (by rw [List.append_nil]; exact sm_bl b)
      | int i => exact fin [] _ _ _ _ rfl (by simp [szs, sz]) (by rw [List.append_nil]; exact sm_int i (c1 i))
      | str s => exact fin [] _ _ _ _ rfl (by simp [szs, sz]) (by rw [List.append_nil]; exact sm_str s)
      | tup ds =>
        have ld := szs_len ds
        have sd : sz (.tup ds) = szs ds + 1 := by simp [sz]
        obtain ⟨s6', e⟩ := sm_tup (g := g) (h := h) (o := o) (a3 := a3) (a4 := a4) (a5 := a5) (a6 := a6) (xs := us.map pr) (show gds ds = true from hd) (by omega) (by simp; omega)
        exact fin ds _ _ _ _ hd (by omega) (by rw [e, List.map_append])
      | lst b ds =>
        cases b with
        | true => cases hd
        | false =>
          have ld := szs_len ds
          have sd : sz (.lst false ds) = szs ds + 1 := by simp [sz]
          obtain ⟨s6', e⟩ := sm_lst (g := g) (h := h) (o := o) (a3 := a3) (a4 := a4) (a5 := a5) (a6 := a6) (xs := us.map pr) (show gds ds = true from hd) (by omega) (by simp; omega)
          exact fin ds _ _ _ _ hd (by omega) (by rw [e, List.map_append])
end
mutual
theorem gd_frz : ∀ {d : D}, gd d = true → d.frz = d
  | .non, _ => rfl
  | .bl _, _ => rfl
  | .int _, _ => rfl
  | .str _, _ => rfl
  | .tup ds, h => by
    show D.tup (D.frzs ds) = _
    rw [gds_frz h]
  | .lst false ds, h => by
    show D.lst false (D.frzs ds) = _
    rw [gds_frz h]
theorem gds_frz : ∀ {ds : List D}, gds ds = true → D.frzs ds = ds
  | [], _ => rfl
  | d :: ds, h => by
    have h : (gd d && gds ds) = true := h
    rw [Bool.and_eq_true] at h
    show d.frz :: D.frzs ds = _
    rw [gd_frz h.1, gds_frz h.2]
end
mutual
theorem gd_nk : ∀ {d : D}, gd d = true → d.nk = true
  | .non, _ => rfl
  | .bl _, _ => rfl
  | .int _, _ => rfl
  | .str _, _ => rfl
  | .tup ds, h => by
    show D.nks ds = true
    exact gds_nk h
  | .lst false ds, h => by
    show D.nks ds = true
    exact gds_nk h
theorem gds_nk : ∀ {ds : List D}, gds ds = true → D.nks ds = true
  | [], _ => rfl
  | d :: ds, h => by
    have h : (gd d && gds ds) = true := h
    rw [Bool.and_eq_true] at h
    show (d.nk && D.nks ds) = true
    rw [gd_nk h.1, gds_nk h.2]
    rfl
end
theorem whole_int (i : Int) : d_law_yv_is_whole [.int i] = .ok (.bl true) [.int i] := by
  simp [d_law_yv_is_whole, b_law_yv_is_whole, fx_law_yv_is_whole, nk0, fnD, outD, sq, sRet, sIf, sNil, sExpr, sSet, sPar, sAsg, sSto, putAt, onE, onT, andV, orV, notV, andT, orT, notT, ifE, tst, Rz.bind, nm, vl, cst, bin, uno, chn, dsp, acons, anil, callD, okA, lendD, wbD, runL, mtD, appL, extL, popL, Hdl.get, valsOf, D.nks, D.nk, D.pl, D.pls, D.frz, D.frzs, nkU, isiD, isiB, iop, iopC, ltD, leD, gtD, geD, addD, subD, mulD, modD, fdivD, negD, modC, isND, notND, isNB, ixD, plO, gN, gT, gC, gNo]
theorem o_same {d b3 b4 b5 b6 : D} {g : List D → Rt} (hd : gd d = true) (hw : sWhile 1000 smT (smB g) [d, d, .lst true [pr d], .un, .un, .un, .un] = .nx [d, d, .lst true [], b3, b4, b5, b6]) : nk0 (fnD 2 7 fx_law_yv_same (B_law_yv_same g)) [d, d] = .ok (.bl true) [d, d] := by
  have f := gd_frz hd
  have n := gd_nk hd
  have hb : B_law_yv_same g [d, d, .un, .un, .un, .un, .un] = .rt (.bl true) [d, d, .lst true [], b3, b4, b5, b6] := by
    show sq (sSet 2 (dsp (.lst true) (acons (dsp .tup (acons (vl 0) (acons (vl 1) (anil)))) (anil)))) (sq (sWhile 1000 smT (smB g)) (sRet (cst (.bl true)))) [d, d, .un, .un, .un, .un, .un] = _
    have e0 : sSet 2 (dsp (.lst true) (acons (dsp .tup (acons (vl 0) (acons (vl 1) (anil)))) (anil))) [d, d, .un, .un, .un, .un, .un] = .nx [d, d, .lst true [pr d], .un, .un, .un, .un] := by
      cases d <;> first | (cases hd; done) | simp [nk0, fnD, outD, sq, sRet, sIf, sNil, sExpr, sSet, sPar, sAsg, sSto, putAt, onE, onT, andV, orV, notV, andT, orT, notT, ifE, tst, Rz.bind, nm, vl, cst, bin, uno, chn, dsp, acons, anil, callD, okA, lendD, wbD, runL, mtD, appL, extL, popL, Hdl.get, valsOf, D.nks, D.nk, D.pl, D.pls, D.frz, D.frzs, nkU, isiD, isiB, iop, iopC, ltD, leD, gtD, geD, addD, subD, mulD, modD, fdivD, negD, modC, isND, notND, isNB, ixD, plO, gN, gT, gC, gNo, pr, f]
      all_goals (simp [D.frz] at f; simp [f])
    unfold sq
    rw [e0]
    simp only [hw]
    rfl
  have hu : nkU d = true := by
    cases d <;> first | exact n | rfl
  have h4 : fnD 2 7 fx_law_yv_same (B_law_yv_same g) [d, d] = .ok (.bl true) [d, d] := by
    unfold fnD
    rw [if_pos (by rfl)]
    show (match B_law_yv_same g [d, d, .un, .un, .un, .un, .un] with
      | .nx τ => _
      | .rt d τ => _
      | .ex n d _ => _
      | _ => _) = _
    rw [hb]
    simp [nk0, fnD, outD, sq, sRet, sIf, sNil, sExpr, sSet, sPar, sAsg, sSto, putAt, onE, onT, andV, orV, notV, andT, orT, notT, ifE, tst, Rz.bind, nm, vl, cst, bin, uno, chn, dsp, acons, anil, callD, okA, lendD, wbD, runL, mtD, appL, extL, popL, Hdl.get, valsOf, D.nks, D.nk, D.pl, D.pls, D.frz, D.frzs, nkU, isiD, isiB, iop, iopC, ltD, leD, gtD, geD, addD, subD, mulD, modD, fdivD, negD, modC, isND, notND, isNB, ixD, plO, gN, gT, gC, gNo, fx_law_yv_same]
  unfold nk0
  rw [if_pos (by simp [D.nks, n]), h4]
  simp [D.nk, hu]
theorem same_refl {d : D} (hd : gd d = true) (hz : sz d ≤ 900) : d_law_yv_same [d, d] = .ok (.bl true) [d, d] := by
  obtain ⟨b3, b4, b5, b6, e⟩ := sm_loop (h := d) (o := d) (g := d_law_yv_is_whole) whole_int 1000 [d] .un .un .un .un (by simp [gds, hd]) (by simp [szs]; omega) (by simp [szs]; omega)
  exact o_same hd e
end Law
end

section
set_option Elab.async false
set_option linter.all false
set_option maxRecDepth 100000
set_option maxHeartbeats 2000000
namespace Law
open Y
/-! ### tells -/
theorem o_tells {d : D} {g1 g2 : List D → Rt} (hp : d.pl = true) (hn : d.nk = true) (hf : d.frz = d) (hu : d ≠ .un) (c1 : g1 [.tok d] = .ok (.tup [.str "told", d]) [.tok d]) (c2 : g2 [.tup [.str "told", d], .tup [.str "told", d]] = .ok (.bl true) [.tup [.str "told", d], .tup [.str "told", d]]) :
    fnD 2 2 fx_law_c4_tells (B_law_c4_tells g1 g2) [.tok d, d] = .ok (.bl true) [.tok d, d] := by
  cases d with
  | un => exact absurd rfl hu
  | tup ds =>
    simp only [D.frz, D.pl, D.nk, D.tup.injEq] at hp hn hf
    simp [B_law_c4_tells, fx_law_c4_tells, nk0, fnD, outD, sq, sRet, sIf, sNil, sExpr, sSet, sPar, sAsg, sSto, putAt, onE, onT, andV, orV, notV, andT, orT, notT, ifE, tst, Rz.bind, nm, vl, cst, bin, uno, chn, dsp, acons, anil, callD, okA, lendD, wbD, runL, mtD, appL, extL, popL, Hdl.get, valsOf, D.nks, D.nk, D.pl, D.pls, D.frz, D.frzs, nkU, isiD, isiB, iop, iopC, ltD, leD, gtD, geD, addD, subD, mulD, modD, fdivD, negD, modC, isND, notND, isNB, ixD, plO, gN, gT, gC, gNo, lamD, frzAll, cloOf, onlyD, c1, c2, hp, hn, hf]
  | int i => simp [B_law_c4_tells, fx_law_c4_tells, nk0, fnD, outD, sq, sRet, sIf, sNil, sExpr, sSet, sPar, sAsg, sSto, putAt, onE, onT, andV, orV, notV, andT, orT, notT, ifE, tst, Rz.bind, nm, vl, cst, bin, uno, chn, dsp, acons, anil, callD, okA, lendD, wbD, runL, mtD, appL, extL, popL, Hdl.get, valsOf, D.nks, D.nk, D.pl, D.pls, D.frz, D.frzs, nkU, isiD, isiB, iop, iopC, ltD, leD, gtD, geD, addD, subD, mulD, modD, fdivD, negD, modC, isND, notND, isNB, ixD, plO, gN, gT, gC, gNo, lamD, frzAll, cloOf, onlyD, c1, c2]
  | str i => simp [B_law_c4_tells, fx_law_c4_tells, nk0, fnD, outD, sq, sRet, sIf, sNil, sExpr, sSet, sPar, sAsg, sSto, putAt, onE, onT, andV, orV, notV, andT, orT, notT, ifE, tst, Rz.bind, nm, vl, cst, bin, uno, chn, dsp, acons, anil, callD, okA, lendD, wbD, runL, mtD, appL, extL, popL, Hdl.get, valsOf, D.nks, D.nk, D.pl, D.pls, D.frz, D.frzs, nkU, isiD, isiB, iop, iopC, ltD, leD, gtD, geD, addD, subD, mulD, modD, fdivD, negD, modC, isND, notND, isNB, ixD, plO, gN, gT, gC, gNo, lamD, frzAll, cloOf, onlyD, c1, c2]
  | bl i => simp [B_law_c4_tells, fx_law_c4_tells, nk0, fnD, outD, sq, sRet, sIf, sNil, sExpr, sSet, sPar, sAsg, sSto, putAt, onE, onT, andV, orV, notV, andT, orT, notT, ifE, tst, Rz.bind, nm, vl, cst, bin, uno, chn, dsp, acons, anil, callD, okA, lendD, wbD, runL, mtD, appL, extL, popL, Hdl.get, valsOf, D.nks, D.nk, D.pl, D.pls, D.frz, D.frzs, nkU, isiD, isiB, iop, iopC, ltD, leD, gtD, geD, addD, subD, mulD, modD, fdivD, negD, modC, isND, notND, isNB, ixD, plO, gN, gT, gC, gNo, lamD, frzAll, cloOf, onlyD, c1, c2]
  | non => simp [B_law_c4_tells, fx_law_c4_tells, nk0, fnD, outD, sq, sRet, sIf, sNil, sExpr, sSet, sPar, sAsg, sSto, putAt, onE, onT, andV, orV, notV, andT, orT, notT, ifE, tst, Rz.bind, nm, vl, cst, bin, uno, chn, dsp, acons, anil, callD, okA, lendD, wbD, runL, mtD, appL, extL, popL, Hdl.get, valsOf, D.nks, D.nk, D.pl, D.pls, D.frz, D.frzs, nkU, isiD, isiB, iop, iopC, ltD, leD, gtD, geD, addD, subD, mulD, modD, fdivD, negD, modC, isND, notND, isNB, ixD, plO, gN, gT, gC, gNo, lamD, frzAll, cloOf, onlyD, c1, c2]
  | scr _ => simp [B_law_c4_tells, fx_law_c4_tells, nk0, fnD, outD, sq, sRet, sIf, sNil, sExpr, sSet, sPar, sAsg, sSto, putAt, onE, onT, andV, orV, notV, andT, orT, notT, ifE, tst, Rz.bind, nm, vl, cst, bin, uno, chn, dsp, acons, anil, callD, okA, lendD, wbD, runL, mtD, appL, extL, popL, Hdl.get, valsOf, D.nks, D.nk, D.pl, D.pls, D.frz, D.frzs, nkU, isiD, isiB, iop, iopC, ltD, leD, gtD, geD, addD, subD, mulD, modD, fdivD, negD, modC, isND, notND, isNB, ixD, plO, gN, gT, gC, gNo, lamD, frzAll, cloOf, onlyD, c1, c2]
  | lst b ds =>
    cases b with
    | true => simp [D.pl] at hp
    | false =>
      simp only [D.frz, D.pl, D.nk, D.lst.injEq] at hp hn hf
      simp [B_law_c4_tells, fx_law_c4_tells, nk0, fnD, outD, sq, sRet, sIf, sNil, sExpr, sSet, sPar, sAsg, sSto, putAt, onE, onT, andV, orV, notV, andT, orT, notT, ifE, tst, Rz.bind, nm, vl, cst, bin, uno, chn, dsp, acons, anil, callD, okA, lendD, wbD, runL, mtD, appL, extL, popL, Hdl.get, valsOf, D.nks, D.nk, D.pl, D.pls, D.frz, D.frzs, nkU, isiD, isiB, iop, iopC, ltD, leD, gtD, geD, addD, subD, mulD, modD, fdivD, negD, modC, isND, notND, isNB, ixD, plO, gN, gT, gC, gNo, lamD, frzAll, cloOf, onlyD, c1, c2, hp, hn, hf]
  | dct b ks ds =>
    cases b with
    | true => simp [D.pl] at hp
    | false =>
      simp only [D.frz, D.pl, D.nk, D.dct.injEq] at hp hn hf
      simp [B_law_c4_tells, fx_law_c4_tells, nk0, fnD, outD, sq, sRet, sIf, sNil, sExpr, sSet, sPar, sAsg, sSto, putAt, onE, onT, andV, orV, notV, andT, orT, notT, ifE, tst, Rz.bind, nm, vl, cst, bin, uno, chn, dsp, acons, anil, callD, okA, lendD, wbD, runL, mtD, appL, extL, popL, Hdl.get, valsOf, D.nks, D.nk, D.pl, D.pls, D.frz, D.frzs, nkU, isiD, isiB, iop, iopC, ltD, leD, gtD, geD, addD, subD, mulD, modD, fdivD, negD, modC, isND, notND, isNB, ixD, plO, gN, gT, gC, gNo, lamD, frzAll, cloOf, onlyD, c1, c2, hp, hn, hf]
  | tok _ => cases hn
  | tex _ _ => cases hn
theorem gd_un {d : D} (h : gd d = true) : d ≠ .un := fun z => by
  rw [z] at h
  cases h
theorem tells_gd {d : D} (h : gd d = true) (hz : sz d ≤ 800) : d_law_c4_tells [.tok d, d] = .ok (.bl true) [.tok d, d] := by
  have h2 : gd (.tup [.str "told", d]) = true := by
    show gds [.str "told", d] = true
    simp [gds, gd, h]
  exact o_tells (g1 := d_law_c4_heard) (g2 := d_law_yv_same) (gd_pl h) (gd_nk h) (gd_frz h) (gd_un h) (heard_tok (gd_nk h)) (same_refl h2 (by simp [sz, szs]; omega))
/-! ### the small ones -/
theorem o_is_in {x l h : Int} {g : List D → Rt} (c1 : g [.int x] = .ok (.bl true) [.int x]) : nk0 (fnD 3 3 fx_law_yv_is_in (B_law_yv_is_in g)) [.int x, .int l, .int h] = .ok (.bl (decide (l ≤ x) && decide (x ≤ h))) [.int x, .int l, .int h] := by
  by_cases e : l ≤ x <;> simp [B_law_yv_is_in, fx_law_yv_is_in, nk0, fnD, outD, sq, sRet, sIf, sNil, sExpr, sSet, sPar, sAsg, sSto, putAt, onE, onT, andV, orV, notV, andT, orT, notT, ifE, tst, Rz.bind, nm, vl, cst, bin, uno, chn, dsp, acons, anil, callD, okA, lendD, wbD, runL, mtD, appL, extL, popL, Hdl.get, valsOf, D.nks, D.nk, D.pl, D.pls, D.frz, D.frzs, nkU, isiD, isiB, iop, iopC, ltD, leD, gtD, geD, addD, subD, mulD, modD, fdivD, negD, modC, isND, notND, isNB, ixD, plO, gN, gT, gC, gNo, lamD, frzAll, cloOf, onlyD, c1, e]
theorem o_is_res {x : Int} {g : List D → Rt} (c1 : g [.int x, .int 0, .int 2147483646] = .ok (.bl (decide (0 ≤ x) && decide (x ≤ 2147483646))) [.int x, .int 0, .int 2147483646]) : nk0 (fnD 1 1 fx_law_yv_is_residue (B_law_yv_is_residue g)) [.int x] = .ok (.bl (decide (0 ≤ x) && decide (x ≤ 2147483646))) [.int x] := by
  simp [B_law_yv_is_residue, fx_law_yv_is_residue, nk0, fnD, outD, sq, sRet, sIf, sNil, sExpr, sSet, sPar, sAsg, sSto, putAt, onE, onT, andV, orV, notV, andT, orT, notT, ifE, tst, Rz.bind, nm, vl, cst, bin, uno, chn, dsp, acons, anil, callD, okA, lendD, wbD, runL, mtD, appL, extL, popL, Hdl.get, valsOf, D.nks, D.nk, D.pl, D.pls, D.frz, D.frzs, nkU, isiD, isiB, iop, iopC, ltD, leD, gtD, geD, addD, subD, mulD, modD, fdivD, negD, modC, isND, notND, isNB, ixD, plO, gN, gT, gC, gNo, lamD, frzAll, cloOf, onlyD, c1]
theorem law_res (x : Int) : d_law_yv_is_residue [.int x] = .ok (.bl (decide (0 ≤ x) && decide (x ≤ 2147483646))) [.int x] := o_is_res (g := d_law_yv_is_in) (o_is_in (g := d_law_yv_is_whole) (whole_int x))
theorem o_is_inv {a x : Int} {g : List D → Rt} (c1 : g [.int x] = .ok (.bl true) [.int x]) (m : mulC a x = true) (h : a * x % 2147483647 = 1) : nk0 (fnD 2 2 fx_law_c4_is_inverse (B_law_c4_is_inverse g)) [.int a, .int x] = .ok (.bl true) [.int a, .int x] := by
  simp [B_law_c4_is_inverse, fx_law_c4_is_inverse, nk0, fnD, outD, sq, sRet, sIf, sNil, sExpr, sSet, sPar, sAsg, sSto, putAt, onE, onT, andV, orV, notV, andT, orT, notT, ifE, tst, Rz.bind, nm, vl, cst, bin, uno, chn, dsp, acons, anil, callD, okA, lendD, wbD, runL, mtD, appL, extL, popL, Hdl.get, valsOf, D.nks, D.nk, D.pl, D.pls, D.frz, D.frzs, nkU, isiD, isiB, iop, iopC, ltD, leD, gtD, geD, addD, subD, mulD, modD, fdivD, negD, modC, isND, notND, isNB, ixD, plO, gN, gT, gC, gNo, lamD, frzAll, cloOf, onlyD, intD, eqD, eqB, c1, m, h]
theorem is_inv {a : Nat} (h1 : 1 ≤ a) (ha : a < 2147483647) : d_law_c4_is_inverse [.int a, .int (inv a)] = .ok (.bl true) [.int a, .int (inv a)] := by
  obtain ⟨l, e, _⟩ := inv_spec h1 ha
  have c := law_res (inv a)
  rw [decide_eq_true (by omega), decide_eq_true (by omega)] at c
  exact o_is_inv (g := d_law_yv_is_residue) c (mulC_r (by omega) (by omega)) (by omega)
theorem row_int {b x : Int} (m : mulC b x = true) : d_law_c4_row [.int b, .int x] = .ok (.tup [.int (b * x % 2147483647), .int 0, .int (b * x % 2147483647)]) [.int b, .int x] := by
  simp [d_law_c4_row, b_law_c4_row, fx_law_c4_row, nk0, fnD, outD, sq, sRet, sIf, sNil, sExpr, sSet, sPar, sAsg, sSto, putAt, onE, onT, andV, orV, notV, andT, orT, notT, ifE, tst, Rz.bind, nm, vl, cst, bin, uno, chn, dsp, acons, anil, callD, okA, lendD, wbD, runL, mtD, appL, extL, popL, Hdl.get, valsOf, D.nks, D.nk, D.pl, D.pls, D.frz, D.frzs, nkU, isiD, isiB, iop, iopC, ltD, leD, gtD, geD, addD, subD, mulD, modD, fdivD, negD, modC, isND, notND, isNB, ixD, plO, gN, gT, gC, gNo, lamD, frzAll, cloOf, onlyD, intD, m]
theorem o_other {b x : Int} {g1 g2 : List D → Rt} (c1 : g1 [.int b] = .ok (.int x) [.int b]) (c2 : g2 [.tok (.int x)] = .ok (.tup [.str "told", .int x]) [.tok (.int x)]) : nk0 (fnD 1 1 fx_law_c4_other (B_law_c4_other g1 g2)) [.int b] = .ok (.tup [.str "told", .int x]) [.int b] := by
  simp [B_law_c4_other, fx_law_c4_other, nk0, fnD, outD, sq, sRet, sIf, sNil, sExpr, sSet, sPar, sAsg, sSto, putAt, onE, onT, andV, orV, notV, andT, orT, notT, ifE, tst, Rz.bind, nm, vl, cst, bin, uno, chn, dsp, acons, anil, callD, okA, lendD, wbD, runL, mtD, appL, extL, popL, Hdl.get, valsOf, D.nks, D.nk, D.pl, D.pls, D.frz, D.frzs, nkU, isiD, isiB, iop, iopC, ltD, leD, gtD, geD, addD, subD, mulD, modD, fdivD, negD, modC, isND, notND, isNB, ixD, plO, gN, gT, gC, gNo, lamD, frzAll, cloOf, onlyD, c1, c2]
theorem other_int {b : Nat} (h1 : 1 ≤ b) (hb : b < 2147483647) : d_law_c4_other [.int b] = .ok (.tup [.str "told", .int (inv b)]) [.int b] := o_other (g1 := d_inverse) (g2 := d_law_c4_heard) (inverse_int h1 hb) (heard_tok rfl)
end Law
end

section
set_option Elab.async false
set_option linter.all false
set_option maxRecDepth 100000
set_option maxHeartbeats 4000000
namespace Law
open Y
theorem o_told {a b x y : Int} {gi gh gv go gr gt gq gm : List D → Rt}
    (i1 : gi [.int a] = .ok (.int x) [.int a]) (i2 : gi [.int x] = .ok (.int a) [.int x]) (i3 : gi [.int (a * b % 2147483647)] = .ok (.int (x * y % 2147483647)) [.int (a * b % 2147483647)]) (i4 : gi [.int (2147483647 - a)] = .ok (.int (2147483647 - x)) [.int (2147483647 - a)])
    (h1 : gh [.tok (.int x)] = .ok (.tup [.str "told", .int x]) [.tok (.int x)]) (o1 : go [.int b] = .ok (.tup [.str "told", .int y]) [.int b])
    (v1 : gv [.int a, .int x] = .ok (.bl true) [.int a, .int x]) (v2 : gv [.int b, .int y] = .ok (.bl true) [.int b, .int y])
    (t1 : ∀ z : Int, gt [.tok (.int z), .int z] = .ok (.bl true) [.tok (.int z), .int z]) (t2 : ∀ z : Int, gt [.tok (.tup [.int z]), .tup [.int z]] = .ok (.bl true) [.tok (.tup [.int z]), .tup [.int z]])
    (t3 : ∀ z u v : Int, gt [.tok (.tup [.int z, .int u, .int v]), .tup [.int z, .int u, .int v]] = .ok (.bl true) [.tok (.tup [.int z, .int u, .int v]), .tup [.int z, .int u, .int v]])
    (m1 : mulC x y = true) (m2 : mulC a b = true) (r1 : gr [.int b, .int x] = .ok (.tup [.int (b * x % 2147483647), .int 0, .int (b * x % 2147483647)]) [.int b, .int x])
    (q1 : gq [.tup [.int 1], .tup [.int a]] = .ok (.tup [.int x]) [.tup [.int 1], .tup [.int a]]) (q2 : gq [.tup [.int b, .int 0, .int b], .tup [.int a]] = .ok (.tup [.int (b * x % 2147483647), .int 0, .int (b * x % 2147483647)]) [.tup [.int b, .int 0, .int b], .tup [.int a]])
    (p1 : gm [.tup [.int a], .tup [.int x]] = .ok (.tup [.int 1]) [.tup [.int a], .tup [.int x]]) :
    nk0 (fnD 2 5 fx_law_c4_told_right (B_law_c4_told_right gi gh gv go gr gt gq gm)) [.int a, .int b] = .ok (.bl true) [.int a, .int b] := by
  have x0 : ∀ s : PySem.Str, ∀ z : Int, bin ixD (cst (.tup [.str s, .int z])) (cst (.int 0)) [] = .ok (.val (.str s)) [] := fun _ _ => rfl
  have a0 : ∀ s : PySem.Str, ∀ z : Int, ixD (.tup [.str s, .int z]) (.int 0) = some (.str s) := fun _ _ => rfl
  have a1 : ∀ s : PySem.Str, ∀ z : Int, ixD (.tup [.str s, .int z]) (.int 1) = some (.int z) := fun _ _ => rfl
  simp [B_law_c4_told_right, fx_law_c4_told_right, nk0, fnD, outD, sq, sRet, sIf, sNil, sExpr, sSet, sPar, sAsg, sSto, putAt, onE, onT, andV, orV, notV, andT, orT, notT, ifE, tst, Rz.bind, nm, vl, cst, bin, uno, chn, dsp, acons, anil, callD, okA, lendD, wbD, runL, mtD, appL, extL, popL, Hdl.get, valsOf, D.nks, D.nk, D.pl, D.pls, D.frz, D.frzs, nkU, isiD, isiB, iop, iopC, ltD, leD, gtD, geD, addD, subD, mulD, modD, fdivD, negD, modC, isND, notND, isNB, gN, gT, gC, gNo, lamD, frzAll, cloOf, onlyD, i1, i2, i3, i4, h1, o1, v1, v2, t1, t2, t3, m1, m2, r1, q1, q2, p1, a0, a1, intD, neD, eqB]
end Law
end

section
set_option Elab.async false
set_option linter.all false
set_option maxRecDepth 100000
set_option maxHeartbeats 4000000
namespace Law
open Y
/-! ### polys of one number, of three -/
abbrev tmT : Den Bool := andT (tst (bin gtD (nm 1) (cst (.int 0)))) (tst (bin eqD (bin ixD (nm 0) (bin subD (nm 1) (cst (.int 1)))) (cst (.int 0))))
abbrev tmB : SDen := sSet 1 (bin subD (nm 1) (cst (.int 1)))
def iL (xs : List Int) : List D := xs.map .int
/-- how many numbers stand ahead of the last noughts -/
def trn (xs : List Int) : Nat → Nat
  | 0 => 0
  | n + 1 => if xs[n]? = some 0 then trn xs n else n + 1
theorem trn_le (xs : List Int) : ∀ n, trn xs n ≤ n
  | 0 => Nat.le_refl _
  | n + 1 => by
    unfold trn
    split
    · exact Nat.le_succ_of_le (trn_le xs n)
    · exact Nat.le_refl _
theorem ix_ints {q : D} {xs : List Int} (hq : q = .tup (iL xs) ∨ ∃ o, q = .lst o (iL xs)) {i : Nat} {v : Int} (h : xs[i]? = some v) : ixD q (.int (i : Int)) = some (.int v) := by
  have e : (iL xs)[i]? = some (.int v) := by unfold iL; rw [List.getElem?_map, h]; rfl
  rcases hq with rfl | ⟨o, rfl⟩
  · show plO (L2.atI _ _) = _
    rw [L2.atI_nat e]
    rfl
  · show plO (L2.atI _ _) = _
    rw [L2.atI_nat e]
    rfl
theorem tm_loop {q : D} {xs : List Int} (hq : q = .tup (iL xs) ∨ ∃ o, q = .lst o (iL xs)) : ∀ (n m : Nat), n ≤ xs.length → n < m → sWhile m tmT tmB [q, .int (n : Int)] = .nx [q, .int (trn xs n : Nat)]
  | n, 0, h1, h2 => by omega
  | 0, m + 1, h1, h2 => by
    have t0 : tmT [q, .int (0 : Nat)] = .ok false [q, .int (0 : Nat)] := by
      simp [tmT, nk0, fnD, outD, sq, sRet, sIf, sNil, sExpr, sSet, sPar, sAsg, sSto, putAt, onE, onT, andV, orV, notV, andT, orT, notT, ifE, tst, Rz.bind, nm, vl, cst, bin, uno, chn, dsp, acons, anil, callD, okA, lendD, wbD, runL, mtD, appL, extL, popL, Hdl.get, valsOf, D.nks, D.nk, D.pl, D.pls, D.frz, D.frzs, nkU, isiD, isiB, iop, iopC, ltD, leD, gtD, geD, addD, subD, mulD, modD, fdivD, negD, modC, isND, notND, isNB, ixD, plO, gN, gT, gC, gNo, lamD, frzAll, cloOf, onlyD]
    rw [sWhile_stop t0]
    rfl
  | n + 1, m + 1, h1, h2 => by
    have hn : n < xs.length := by omega
    have e := ix_ints hq (List.getElem?_eq_getElem hn)
    have nq : q ≠ .un := by
      rcases hq with rfl | ⟨o, rfl⟩ <;> exact fun z => by cases z
    have c : ((n + 1 : Nat) : Int) - 1 = (n : Int) := by omega
    have p : decide ((0 : Int) < ((n + 1 : Nat) : Int)) = true := decide_eq_true (by omega)
    have t1 : tmT [q, .int ((n + 1 : Nat) : Int)] = .ok (decide (xs[n] = 0)) [q, .int ((n + 1 : Nat) : Int)] := by
      generalize ((n + 1 : Nat) : Int) = k at *
      cases q <;> first | exact absurd rfl nq | simp [tmT, nk0, fnD, outD, sq, sRet, sIf, sNil, sExpr, sSet, sPar, sAsg, sSto, putAt, onE, onT, andV, orV, notV, andT, orT, notT, ifE, tst, Rz.bind, nm, vl, cst, bin, uno, chn, dsp, acons, anil, callD, okA, lendD, wbD, runL, mtD, appL, extL, popL, Hdl.get, valsOf, D.nks, D.nk, D.pl, D.pls, D.frz, D.frzs, nkU, isiD, isiB, iop, iopC, ltD, leD, gtD, geD, addD, subD, mulD, modD, fdivD, negD, modC, isND, notND, isNB, gN, gT, gC, gNo, lamD, frzAll, cloOf, onlyD, c, p, e, eqD, eqB]
    by_cases z : xs[n] = 0
    · rw [decide_eq_true z] at t1
      have b1 : tmB [q, .int ((n + 1 : Nat) : Int)] = .nx [q, .int (n : Int)] := by
        generalize ((n + 1 : Nat) : Int) = k at *
        simp [tmB, nk0, fnD, outD, sq, sRet, sIf, sNil, sExpr, sSet, sPar, sAsg, sSto, putAt, onE, onT, andV, orV, notV, andT, orT, notT, ifE, tst, Rz.bind, nm, vl, cst, bin, uno, chn, dsp, acons, anil, callD, okA, lendD, wbD, runL, mtD, appL, extL, popL, Hdl.get, valsOf, D.nks, D.nk, D.pl, D.pls, D.frz, D.frzs, nkU, isiD, isiB, iop, iopC, ltD, leD, gtD, geD, addD, subD, mulD, modD, fdivD, negD, modC, isND, notND, isNB, ixD, plO, gN, gT, gC, gNo, lamD, frzAll, cloOf, onlyD, c]
      rw [sWhile_go t1 b1, tm_loop hq n m (by omega) (by omega)]
      unfold trn
      rw [List.getElem?_eq_getElem hn, if_pos (by rw [z])]
      cases n <;> rfl
    · rw [decide_eq_false z] at t1
      rw [sWhile_stop t1]
      unfold trn
      rw [List.getElem?_eq_getElem hn, if_neg (by simpa using z)]
theorem pls_iL (xs : List Int) : D.pls (iL xs) = true := by
  unfold iL
  rw [pls_all, List.all_map]
  simp [D.pl]
theorem nks_iL (xs : List Int) : D.nks (iL xs) = true := by
  unfold iL
  rw [nks_all, List.all_map]
  simp [D.nk]
theorem cut_iL (xs : List Int) {n : Nat} (h : n ≤ xs.length) : cutD (iL xs) none (some (n : Int)) = iL (xs.take n) := by
  unfold cutD
  rw [HT.sIx_none, HT.sIx_nat, List.drop_zero, Nat.sub_zero]
  unfold iL
  rw [List.length_map, Nat.min_eq_left h, List.map_take]
theorem len_iL (xs : List Int) : (iL xs).length = xs.length := by
  unfold iL
  simp
/-- trimmed, of a tuple and of a list -/
theorem tm_body {q : D} {xs : List Int} (hq : q = .tup (iL xs) ∨ ∃ o, q = .lst o (iL xs)) (hl : xs.length < 1000) : b_trimmed [q, .un] = .rt (.lst true (iL (xs.take (trn xs xs.length)))) [q, .int (trn xs xs.length : Nat)] := by
  have e := tm_loop hq xs.length 1000 (Nat.le_refl _) hl
  have nq : q ≠ .un := by
    rcases hq with rfl | ⟨o, rfl⟩ <;> exact fun z => by cases z
  show sq (sSet 1 (uno lenD (nm 0))) (sq (sWhile 1000 tmT tmB) (sRet (uno listD (slc (nm 0) (pn) (pso (nm 1)))))) [q, .un] = _
  have e0 : sSet 1 (uno lenD (nm 0)) [q, .un] = .nx [q, .int (xs.length : Nat)] := by
    rcases hq with rfl | ⟨o, rfl⟩ <;> simp [nk0, fnD, outD, sq, sRet, sIf, sNil, sExpr, sSet, sPar, sAsg, sSto, putAt, onE, onT, andV, orV, notV, andT, orT, notT, ifE, tst, Rz.bind, nm, vl, cst, bin, uno, chn, dsp, acons, anil, callD, okA, lendD, wbD, runL, mtD, appL, extL, popL, Hdl.get, valsOf, D.nks, D.nk, D.pl, D.pls, D.frz, D.frzs, nkU, isiD, isiB, iop, iopC, ltD, leD, gtD, geD, addD, subD, mulD, modD, fdivD, negD, modC, isND, notND, isNB, ixD, plO, gN, gT, gC, gNo, lamD, frzAll, cloOf, onlyD, lenD, len_iL]
  unfold sq
  rw [e0]
  simp only [e]
  have hc := cut_iL xs (trn_le xs xs.length)
  generalize ((trn xs xs.length : Nat) : Int) = k at *
  rcases hq with rfl | ⟨o, rfl⟩ <;> simp [nk0, fnD, outD, sq, sRet, sIf, sNil, sExpr, sSet, sPar, sAsg, sSto, putAt, onE, onT, andV, orV, notV, andT, orT, notT, ifE, tst, Rz.bind, nm, vl, cst, bin, uno, chn, dsp, acons, anil, callD, okA, lendD, wbD, runL, mtD, appL, extL, popL, Hdl.get, valsOf, D.nks, D.nk, D.pl, D.pls, D.frz, D.frzs, nkU, isiD, isiB, iop, iopC, ltD, leD, gtD, geD, addD, subD, mulD, modD, fdivD, negD, modC, isND, notND, isNB, ixD, plO, gN, gT, gC, gNo, lamD, frzAll, cloOf, onlyD, slc, slcD, pn, pso, listD, pls_iL, hc]
theorem o_trim {q d : D} {k : Int} {b : SDen} (hq : q.nk = true) (hd : d.nk = true) (hu : q ≠ .un) (h : b [q, .un] = .rt d [q, .int k]) : nk0 (fnD 1 2 fx_trimmed b) [q] = .ok d [q] := by
  cases q <;> first | exact absurd rfl hu | (unfold D.nk at hq; simp [nk0, fnD, outD, sq, sRet, sIf, sNil, sExpr, sSet, sPar, sAsg, sSto, putAt, onE, onT, andV, orV, notV, andT, orT, notT, ifE, tst, Rz.bind, nm, vl, cst, bin, uno, chn, dsp, acons, anil, callD, okA, lendD, wbD, runL, mtD, appL, extL, popL, Hdl.get, valsOf, D.nks, D.nk, D.pl, D.pls, D.frz, D.frzs, nkU, isiD, isiB, iop, iopC, ltD, leD, gtD, geD, addD, subD, mulD, modD, fdivD, negD, modC, isND, notND, isNB, ixD, plO, gN, gT, gC, gNo, lamD, frzAll, cloOf, onlyD, fx_trimmed, h, hd, hq]; done) | (simp [nk0, fnD, outD, sq, sRet, sIf, sNil, sExpr, sSet, sPar, sAsg, sSto, putAt, onE, onT, andV, orV, notV, andT, orT, notT, ifE, tst, Rz.bind, nm, vl, cst, bin, uno, chn, dsp, acons, anil, callD, okA, lendD, wbD, runL, mtD, appL, extL, popL, Hdl.get, valsOf, D.nks, D.nk, D.pl, D.pls, D.frz, D.frzs, nkU, isiD, isiB, iop, iopC, ltD, leD, gtD, geD, addD, subD, mulD, modD, fdivD, negD, modC, isND, notND, isNB, ixD, plO, gN, gT, gC, gNo, lamD, frzAll, cloOf, onlyD, fx_trimmed, h, hd]; done)
theorem trimmed_tup (xs : List Int) (hl : xs.length < 1000) : d_trimmed [.tup (iL xs)] = .ok (.lst true (iL (xs.take (trn xs xs.length)))) [.tup (iL xs)] := o_trim (nks_iL _) (nks_iL _) (fun z => by cases z) (tm_body (.inl rfl) hl)
theorem trimmed_lst (b : Bool) (xs : List Int) (hl : xs.length < 1000) : d_trimmed [.lst b (iL xs)] = .ok (.lst true (iL (xs.take (trn xs xs.length)))) [.lst b (iL xs)] := o_trim (nks_iL _) (nks_iL _) (fun z => by cases z) (tm_body (.inr ⟨b, rfl⟩) hl)
end Law
end

section
set_option Elab.async false
set_option linter.all false
set_option maxRecDepth 100000
set_option maxHeartbeats 4000000
namespace Law
open Y
/-! ### made_poly -/
def isR (x : Int) : Prop := 0 ≤ x ∧ x < 2147483647
theorem forL_go {t : D → List D → Option (List D)} {p : SDen} {d : D} {ds τ τ1 τ2 : List D} (h1 : t d τ = some τ1) (h2 : p τ1 = .nx τ2) : forL t p (d :: ds) τ = forL t p ds τ2 := by
  conv => lhs; unfold forL
  simp only [h1, h2]
abbrev wrT : D → List D → Option (List D) := gT 2 (gC (gN 2) (gC (gN 3) (gNo)))
abbrev wrB (g : List D → Rt) : SDen := sIf (notT (tst (callD g (acons (nm 3) (anil))))) (sRet (nm 2)) (sNil)
theorem wr_loop {g : List D → Rt} {q n : D} (c1 : ∀ x : Int, isR x → g [.int x] = .ok (.bl true) [.int x]) : ∀ (xs : List Int) (k : Nat) (a1 a2 : D), (∀ x ∈ xs, isR x) → ∃ b1 b2, forL wrT (wrB g) (enumFrom' k (iL xs)) [q, n, a1, a2] = .nx [q, n, b1, b2]
  | [], k, a1, a2, h => ⟨a1, a2, rfl⟩
  | x :: xs, k, a1, a2, h => by
    obtain ⟨b1, b2, ih⟩ := wr_loop (q := q) (n := n) c1 xs (k + 1) (.int (k : Nat)) (.int x) fun y hy => h y (List.mem_cons_of_mem _ hy)
    refine ⟨b1, b2, ?_⟩
    have e1 : wrT (.tup [.int (k : Nat), .int x]) [q, n, a1, a2] = some [q, n, .int (k : Nat), .int x] := by simp [wrT, nk0, fnD, outD, sq, sRet, sIf, sNil, sExpr, sSet, sPar, sAsg, sSto, putAt, onE, onT, andV, orV, notV, andT, orT, notT, ifE, tst, Rz.bind, nm, vl, cst, bin, uno, chn, dsp, acons, anil, callD, okA, lendD, wbD, runL, mtD, appL, extL, popL, Hdl.get, valsOf, D.nks, D.nk, D.pl, D.pls, D.frz, D.frzs, nkU, isiD, isiB, iop, iopC, ltD, leD, gtD, geD, addD, subD, mulD, modD, fdivD, negD, modC, isND, notND, isNB, ixD, plO, gN, gT, gC, gNo, lamD, frzAll, cloOf, onlyD]
    have e2 : wrB g [q, n, .int (k : Nat), .int x] = .nx [q, n, .int (k : Nat), .int x] := by
      have c := c1 x (h x List.mem_cons_self)
      simp [wrB, nk0, fnD, outD, sq, sRet, sIf, sNil, sExpr, sSet, sPar, sAsg, sSto, putAt, onE, onT, andV, orV, notV, andT, orT, notT, ifE, tst, Rz.bind, nm, vl, cst, bin, uno, chn, dsp, acons, anil, callD, okA, lendD, wbD, runL, mtD, appL, extL, popL, Hdl.get, valsOf, D.nks, D.nk, D.pl, D.pls, D.frz, D.frzs, nkU, isiD, isiB, iop, iopC, ltD, leD, gtD, geD, addD, subD, mulD, modD, fdivD, negD, modC, isND, notND, isNB, ixD, plO, gN, gT, gC, gNo, lamD, frzAll, cloOf, onlyD, c]
    exact (forL_go e1 e2).trans ih
theorem wr_body {g : List D → Rt} {xs : List Int} (c1 : ∀ x : Int, isR x → g [.int x] = .ok (.bl true) [.int x]) (h : ∀ x ∈ xs, isR x) : ∃ b1 b2, B_wrong_residues g [.tup (iL xs), .int xs.length, .un, .un] = .rt .non [.tup (iL xs), .int xs.length, b1, b2] := by
  obtain ⟨b1, b2, e⟩ := wr_loop (g := g) (q := .tup (iL xs)) (n := .int xs.length) c1 xs 0 .un .un h
  refine ⟨b1, b2, ?_⟩
  have fz : D.frzs (iL xs) = iL xs := by
    unfold iL
    rw [frzs_map, List.map_map]
    rfl
  have e1 : sFor (enumS (vl 0)) wrT (wrB g) [.tup (iL xs), .int xs.length, .un, .un] = .nx [.tup (iL xs), .int xs.length, b1, b2] := by
    unfold sFor
    have : enumS (vl 0) [.tup (iL xs), .int xs.length, .un, .un] = .ok (enumFrom' 0 (iL xs)) [.tup (iL xs), .int xs.length, .un, .un] := by
      simp [enumS, nk0, fnD, outD, sq, sRet, sIf, sNil, sExpr, sSet, sPar, sAsg, sSto, putAt, onE, onT, andV, orV, notV, andT, orT, notT, ifE, tst, Rz.bind, nm, vl, cst, bin, uno, chn, dsp, acons, anil, callD, okA, lendD, wbD, runL, mtD, appL, extL, popL, Hdl.get, valsOf, D.nks, D.nk, D.pl, D.pls, D.frz, D.frzs, nkU, isiD, isiB, iop, iopC, ltD, leD, gtD, geD, addD, subD, mulD, modD, fdivD, negD, modC, isND, notND, isNB, ixD, plO, gN, gT, gC, gNo, lamD, frzAll, cloOf, onlyD, seqOf, fz, pls_iL]
    rw [this]
    exact e
  have e0 : sIf (orT (notT (tst (uno (isiD "tuple") (nm 0)))) (tst (bin neD (uno lenD (nm 0)) (nm 1)))) (sRet (uno negD (cst (.int 1)))) (sNil) [.tup (iL xs), .int xs.length, .un, .un] = .nx [.tup (iL xs), .int xs.length, .un, .un] := by
    simp [nk0, fnD, outD, sq, sRet, sIf, sNil, sExpr, sSet, sPar, sAsg, sSto, putAt, onE, onT, andV, orV, notV, andT, orT, notT, ifE, tst, Rz.bind, nm, vl, cst, bin, uno, chn, dsp, acons, anil, callD, okA, lendD, wbD, runL, mtD, appL, extL, popL, Hdl.get, valsOf, D.nks, D.nk, D.pl, D.pls, D.frz, D.frzs, nkU, isiD, isiB, iop, iopC, ltD, leD, gtD, geD, addD, subD, mulD, modD, fdivD, negD, modC, isND, notND, isNB, ixD, plO, gN, gT, gC, gNo, lamD, frzAll, cloOf, onlyD, lenD, len_iL, neD, eqB]
  show sq (sIf (orT (notT (tst (uno (isiD "tuple") (nm 0)))) (tst (bin neD (uno lenD (nm 0)) (nm 1)))) (sRet (uno negD (cst (.int 1)))) (sNil)) (sq (sFor (enumS (vl 0)) wrT (wrB g)) (sRet (cst .non))) [.tup (iL xs), .int xs.length, .un, .un] = _
  unfold sq
  rw [e0]
  simp only [e1]
  rfl
theorem o_wrong {q : List D} {k : Int} {b1 b2 : D} {b : SDen} (hq : D.nks q = true) (h : b [.tup q, .int k, .un, .un] = .rt .non [.tup q, .int k, b1, b2]) : nk0 (fnD 2 4 fx_wrong_residues b) [.tup q, .int k] = .ok .non [.tup q, .int k] := by
  simp [nk0, fnD, outD, sq, sRet, sIf, sNil, sExpr, sSet, sPar, sAsg, sSto, putAt, onE, onT, andV, orV, notV, andT, orT, notT, ifE, tst, Rz.bind, nm, vl, cst, bin, uno, chn, dsp, acons, anil, callD, okA, lendD, wbD, runL, mtD, appL, extL, popL, Hdl.get, valsOf, D.nks, D.nk, D.pl, D.pls, D.frz, D.frzs, nkU, isiD, isiB, iop, iopC, ltD, leD, gtD, geD, addD, subD, mulD, modD, fdivD, negD, modC, isND, notND, isNB, ixD, plO, gN, gT, gC, gNo, lamD, frzAll, cloOf, onlyD, fx_wrong_residues, h, hq]
theorem res_int {x : Int} (h : isR x) : d_is_residue [.int x] = .ok (.bl true) [.int x] := by
  have c := is_residue_int x
  rw [decide_eq_true h.1, decide_eq_true h.2] at c
  exact c
theorem wrong_ok {xs : List Int} (h : ∀ x ∈ xs, isR x) : d_wrong_residues [.tup (iL xs), .int xs.length] = .ok .non [.tup (iL xs), .int xs.length] := by
  obtain ⟨b1, b2, e⟩ := wr_body (g := d_is_residue) (fun x => res_int) h
  exact o_wrong (nks_iL xs) e
theorem o_made {q : List D} {k : Int} {g : List D → Rt} (hq : D.nks q = true) (hp : D.pls q = true) (hl : (q.length : Int) = k) (h40 : k ≤ 40) (c1 : g [.tup q, .int k] = .ok .non [.tup q, .int k]) : nk0 (fnD 1 2 fx_made_poly (B_made_poly g)) [.tup q] = .ok (.tup q) [.un] := by
  have h : ¬ 40 < k := by omega
  simp [nk0, fnD, outD, sq, sRet, sIf, sNil, sExpr, sSet, sPar, sAsg, sSto, putAt, onE, onT, andV, orV, notV, andT, orT, notT, ifE, tst, Rz.bind, nm, vl, cst, bin, uno, chn, dsp, acons, anil, callD, okA, lendD, wbD, runL, mtD, appL, extL, popL, Hdl.get, valsOf, D.nks, D.nk, D.pl, D.pls, D.frz, D.frzs, nkU, isiD, isiB, iop, iopC, ltD, leD, gtD, geD, addD, subD, mulD, modD, fdivD, negD, modC, isND, notND, isNB, ixD, plO, gN, gT, gC, gNo, lamD, frzAll, cloOf, onlyD, fx_made_poly, B_made_poly, lenD, hl, h, c1, hq, hp]
theorem made_ok {xs : List Int} (h : ∀ x ∈ xs, isR x) (hl : xs.length ≤ 40) : d_made_poly [.tup (iL xs)] = .ok (.tup (iL xs)) [.un] :=
  o_made (g := d_wrong_residues) (nks_iL xs) (pls_iL xs) (by rw [len_iL]) (by omega) (wrong_ok h)
/-! ### products, quotients -/
theorem o_product {a x : Int} (ha : ¬ a = 0) (m : mulC a x = true) (h : a * x % 2147483647 = 1) : nk0 (fnD 2 7 fx_product_of b_product_of) [.tup [.int a], .tup [.int x]] = .ok (.lst true [.int 1]) [.tup [.int a], .tup [.int x]] := by
  have e1 : mulD (.lst true [.int 0]) (.int 1) = some (.lst true [.int 0]) := rfl
  have e2 : ixD (.lst true [.int 0]) (.int 0) = some (.int 0) := rfl
  have e3 : mulD (.int a) (.int x) = some (.int (a * x)) := by simp [mulD, m]
  have e4 : L2.ixN 1 0 = some 0 := rfl
  simp [b_product_of, fx_product_of, nk0, fnD, outD, sq, sRet, sIf, sNil, sExpr, sSet, sPar, sAsg, sSto, putAt, onE, onT, andV, orV, notV, andT, orT, notT, ifE, tst, Rz.bind, nm, vl, cst, bin, uno, chn, dsp, acons, anil, callD, okA, lendD, wbD, runL, mtD, appL, extL, popL, Hdl.get, valsOf, D.nks, D.nk, D.pl, D.pls, D.frz, D.frzs, nkU, isiD, isiB, iop, iopC, ltD, leD, gtD, geD, addD, subD, modD, fdivD, negD, modC, isND, notND, isNB, gN, gT, gC, gNo, lamD, frzAll, cloOf, onlyD, lenD, eqD, neD, eqB, sFor, enumS, seqOf, enumFrom', forL, e1, e2, e3, e4, ha, h]
end Law
end

section
set_option Elab.async false
set_option linter.all false
set_option maxRecDepth 100000
set_option maxHeartbeats 4000000
namespace Law
open Y
theorem o_quot1 {a x : Int} {gi gt : List D → Rt} (i1 : gi [.int a] = .ok (.int x) [.int a]) (t1 : gt [.tup [.int 1]] = .ok (.lst true [.int 1]) [.tup [.int 1]]) (t2 : gt [.tup [.int a]] = .ok (.lst true [.int a]) [.tup [.int a]]) (t3 : gt [.lst true [.int 0]] = .ok (.lst true []) [.lst true [.int 0]])
    (hx : x % 2147483647 = x) (m : mulC 1 x = true) (m2 : mulC x a = true) (h : (1 - x * a) % 2147483647 = 0) : nk0 (fnD 2 10 fx_quotient_of (B_quotient_of gi gt)) [.tup [.int 1], .tup [.int a]] = .ok (.lst true [.int x]) [.tup [.int 1], .tup [.int a]] := by
  have e1 : mulD (.lst true [.int 0]) (.int 1) = some (.lst true [.int 0]) := rfl
  have e2 : ∀ z : Int, ixD (.lst true [.int z]) (.int 0) = some (.int z) := fun _ => rfl
  have e5 : ∀ z : Int, ixD (.lst true [.int z]) (.int (-1)) = some (.int z) := fun _ => rfl
  have e3 : mulD (.int 1) (.int x) = some (.int x) := by simp [mulD, m]
  have e6 : mulD (.int x) (.int a) = some (.int (x * a)) := by simp [mulD, m2]
  have e4 : L2.ixN 1 0 = some 0 := rfl
  have e7 : rgD 0 (-1) 1 = [.int 0] := rfl
  have e8 : inRg 0 = true := rfl
  have e9 : inRg (-1) = true := rfl
  have e10 : eqD (.lst true []) (.lst true []) = some (.bl true) := rfl
  have e11 : max2D (.int 0) (.int 1) = some (.int 1) := rfl
  simp [B_quotient_of, fx_quotient_of, nk0, fnD, outD, sq, sRet, sIf, sNil, sExpr, sSet, sPar, sAsg, sSto, putAt, onE, onT, andV, orV, notV, andT, orT, notT, ifE, tst, Rz.bind, nm, vl, cst, bin, uno, chn, dsp, acons, anil, callD, okA, lendD, wbD, runL, mtD, appL, extL, popL, Hdl.get, valsOf, D.nks, D.nk, D.pl, D.pls, D.frz, D.frzs, nkU, isiD, isiB, iop, iopC, ltD, leD, gtD, geD, addD, subD, modD, fdivD, negD, modC, isND, notND, isNB, gN, gT, gC, gNo, lamD, frzAll, cloOf, onlyD, lenD, sFor, enumS, seqOf, enumFrom', forL, rgS3, intOf, i1, t1, t2, t3, e1, e2, e3, e4, e5, e6, e7, e8, e9, e10, e11, hx, h]
theorem o_quot3 {a b x z : Int} {gi gt : List D → Rt} (i1 : gi [.int a] = .ok (.int x) [.int a]) (t1 : gt [.tup [.int b, .int 0, .int b]] = .ok (.lst true [.int b, .int 0, .int b]) [.tup [.int b, .int 0, .int b]]) (t2 : gt [.tup [.int a]] = .ok (.lst true [.int a]) [.tup [.int a]])
    (t3 : gt [.lst true [.int 0, .int 0, .int 0]] = .ok (.lst true []) [.lst true [.int 0, .int 0, .int 0]]) (hz : b * x % 2147483647 = z) (m1 : mulC b x = true) (m2 : mulC z a = true) (m3 : mulC 0 x = true) (m4 : mulC 0 a = true) (h : (b - z * a) % 2147483647 = 0) :
    nk0 (fnD 2 10 fx_quotient_of (B_quotient_of gi gt)) [.tup [.int b, .int 0, .int b], .tup [.int a]] = .ok (.lst true [.int z, .int 0, .int z]) [.tup [.int b, .int 0, .int b], .tup [.int a]] := by
  have e1 : mulD (.lst true [.int 0]) (.int 3) = some (.lst true [.int 0, .int 0, .int 0]) := rfl
  have e2 : ∀ u v w : Int, ixD (.lst true [.int u, .int v, .int w]) (.int 0) = some (.int u) := fun _ _ _ => rfl
  have f2 : ∀ u v w : Int, ixD (.lst true [.int u, .int v, .int w]) (.int 1) = some (.int v) := fun _ _ _ => rfl
  have f3 : ∀ u v w : Int, ixD (.lst true [.int u, .int v, .int w]) (.int 2) = some (.int w) := fun _ _ _ => rfl
  have e5 : ∀ z : Int, ixD (.lst true [.int z]) (.int (-1)) = some (.int z) := fun _ => rfl
  have e3 : mulD (.int b) (.int x) = some (.int (b * x)) := by simp [mulD, m1]
  have e6 : mulD (.int z) (.int a) = some (.int (z * a)) := by simp [mulD, m2]
  have n3 : mulD (.int 0) (.int x) = some (.int 0) := by simp [mulD, m3]
  have n6 : mulD (.int 0) (.int a) = some (.int 0) := by simp [mulD, m4]
  have e4 : L2.ixN 3 0 = some 0 := rfl
  have k4 : L2.ixN 3 1 = some 1 := rfl
  have k5 : L2.ixN 3 2 = some 2 := rfl
  have e7 : rgD 2 (-1) 3 = [.int 2, .int 1, .int 0] := rfl
  have e8 : inRg 2 = true := rfl
  have e9 : inRg (-1) = true := rfl
  have e10 : eqD (.lst true []) (.lst true []) = some (.bl true) := rfl
  have e11 : max2D (.int 0) (.int 3) = some (.int 3) := rfl
  simp [B_quotient_of, fx_quotient_of, nk0, fnD, outD, sq, sRet, sIf, sNil, sExpr, sSet, sPar, sAsg, sSto, putAt, onE, onT, andV, orV, notV, andT, orT, notT, ifE, tst, Rz.bind, nm, vl, cst, bin, uno, chn, dsp, acons, anil, callD, okA, lendD, wbD, runL, mtD, appL, extL, popL, Hdl.get, valsOf, D.nks, D.nk, D.pl, D.pls, D.frz, D.frzs, nkU, isiD, isiB, iop, iopC, ltD, leD, gtD, geD, addD, subD, modD, fdivD, negD, modC, isND, notND, isNB, gN, gT, gC, gNo, lamD, frzAll, cloOf, onlyD, lenD, sFor, enumS, seqOf, enumFrom', forL, rgS3, intOf, i1, t1, t2, t3, e1, e2, f2, f3, e3, e4, k4, k5, e5, e6, n3, n6, e7, e8, e9, e10, e11, hz, h]
theorem o_quotient {q r : List D} {c : D} {s : List D} {gm gq gt : List D → Rt} (hq : D.nks q = true) (pq : D.pls q = true) (hr : D.nks r = true) (pr : D.pls r = true) (hs : D.nks s = true) (ps : D.pls s = true) (m1 : gm [.tup q] = .ok (.tup q) [.un]) (m2 : gm [.tup r] = .ok (.tup r) [.un]) (t1 : gt [.tup r] = .ok (.lst true (c :: s)) [.tup r]) (ht : (c :: s).length ≤ 100)
    {u : List D} (hu : D.nks u = true) (pu : D.pls u = true) (q1 : gq [.tup q, .tup r] = .ok (.lst true u) [.tup q, .tup r]) (hc : c.nk = true) : nk0 (fnD 2 3 fx_quotient (B_quotient gm gq gt)) [.tup q, .tup r] = .ok (.tup u) [.tup q, .tup r] := by
  have e1 : eqD (.lst true (c :: s)) (.lst true []) = some (.bl false) := by simp [eqD, eqB]
  simp [B_quotient, fx_quotient, nk0, fnD, outD, sq, sRet, sIf, sNil, sExpr, sSet, sPar, sAsg, sSto, putAt, onE, onT, andV, orV, notV, andT, orT, notT, ifE, tst, Rz.bind, nm, vl, cst, bin, uno, chn, dsp, acons, anil, callD, okA, lendD, wbD, runL, mtD, appL, extL, popL, Hdl.get, valsOf, D.nks, D.nk, D.pl, D.pls, D.frz, D.frzs, nkU, isiD, isiB, iop, iopC, ltD, leD, gtD, geD, addD, subD, mulD, modD, fdivD, negD, modC, isND, notND, isNB, ixD, plO, gN, gT, gC, gNo, lamD, frzAll, cloOf, onlyD, tupleD, m1, m2, t1, q1, e1, hq, pq, hr, pr, hs, ps, hu, pu, hc]
theorem o_times {q r u : List D} {gm gp : List D → Rt} (hq : D.nks q = true) (pq : D.pls q = true) (hr : D.nks r = true) (pr : D.pls r = true) (hu : D.nks u = true) (pu : D.pls u = true) (m1 : gm [.tup q] = .ok (.tup q) [.un]) (m2 : gm [.tup r] = .ok (.tup r) [.un])
    (q1 : gp [.tup q, .tup r] = .ok (.lst true u) [.tup q, .tup r]) : nk0 (fnD 2 2 fx_times (B_times gm gp)) [.tup q, .tup r] = .ok (.tup u) [.tup q, .tup r] := by
  simp [B_times, fx_times, nk0, fnD, outD, sq, sRet, sIf, sNil, sExpr, sSet, sPar, sAsg, sSto, putAt, onE, onT, andV, orV, notV, andT, orT, notT, ifE, tst, Rz.bind, nm, vl, cst, bin, uno, chn, dsp, acons, anil, callD, okA, lendD, wbD, runL, mtD, appL, extL, popL, Hdl.get, valsOf, D.nks, D.nk, D.pl, D.pls, D.frz, D.frzs, nkU, isiD, isiB, iop, iopC, ltD, leD, gtD, geD, addD, subD, mulD, modD, fdivD, negD, modC, isND, notND, isNB, ixD, plO, gN, gT, gC, gNo, lamD, frzAll, cloOf, onlyD, tupleD, m1, m2, q1, hq, pq, hr, pr, hu, pu]
end Law
end

section
set_option Elab.async false
set_option linter.all false
set_option maxRecDepth 100000
set_option maxHeartbeats 1000000
namespace Law
open Y
theorem inv_inv {a : Nat} (h1 : 1 ≤ a) (ha : a < 2147483647) : inv (inv a) = a := by
  obtain ⟨l, e, _⟩ := inv_spec h1 ha
  exact inv_one (inv_pos h1 ha) l ha (by rw [Nat.mul_comm]; exact e)
theorem mul_pos {a b : Nat} (h1 : 1 ≤ a) (ha : a < 2147483647) (h2 : 1 ≤ b) (hb : b < 2147483647) : 1 ≤ a * b % 2147483647 ∧ inv (a * b % 2147483647) = inv a * inv b % 2147483647 := by
  obtain ⟨l, e, _⟩ := inv_spec h1 ha
  obtain ⟨l2, e2, _⟩ := inv_spec h2 hb
  have key : a * b % 2147483647 * (inv a * inv b % 2147483647) % 2147483647 = 1 := by
    rw [← Nat.mul_mod]
    have c : a * b * (inv a * inv b) = (a * inv a) * (b * inv b) := by
      rw [Nat.mul_assoc, Nat.mul_assoc, Nat.mul_left_comm b]
    rw [c, Nat.mul_mod, e, e2]
  have pos : 1 ≤ a * b % 2147483647 := by
    by_cases z : a * b % 2147483647 = 0
    · rw [z, Nat.zero_mul] at key
      simp at key
    · omega
  exact ⟨pos, inv_one pos (Nat.mod_lt _ (by omega)) (Nat.mod_lt _ (by omega)) key⟩
theorem neg_inv {a : Nat} (h1 : 1 ≤ a) (ha : a < 2147483647) : inv (2147483647 - a) = 2147483647 - inv a := by
  obtain ⟨l, e, _⟩ := inv_spec h1 ha
  have p := inv_pos h1 ha
  refine inv_one (by omega) (by omega) (by omega) ?_
  obtain ⟨c, hc⟩ : ∃ c, c = 2147483647 - a := ⟨_, rfl⟩
  obtain ⟨d, hd⟩ : ∃ d, d = 2147483647 - inv a := ⟨_, rfl⟩
  rw [← hc, ← hd]
  -- c * d + P * (a + v) = P * P + a * v
  have s1 : c + a = 2147483647 := by omega
  have s2 : d + inv a = 2147483647 := by omega
  have q : c * d + 2147483647 * inv a = a * inv a + 2147483647 * c := by
    have q1 : (c + a) * inv a = c * inv a + a * inv a := Nat.add_mul _ _ _
    have q2 : c * (d + inv a) = c * d + c * inv a := Nat.mul_add _ _ _
    rw [s1] at q1
    rw [s2] at q2
    omega
  generalize c * d = u at *
  generalize a * inv a = w at *
  omega
theorem told_right {a b : Nat} (h1 : 1 ≤ a) (ha : a < 2147483647) (h2 : 1 ≤ b) (hb : b < 2147483647) : d_law_c4_told_right [.int a, .int b] = .ok (.bl true) [.int a, .int b] := by
  obtain ⟨l, e, io⟩ := inv_spec h1 ha
  obtain ⟨l2, e2, _⟩ := inv_spec h2 hb
  have p1 := inv_pos h1 ha
  have p2 := inv_pos h2 hb
  obtain ⟨mp, mi⟩ := mul_pos h1 ha h2 hb
  have i2 := inverse_int p1 l
  rw [inv_inv h1 ha] at i2
  have i3 := inverse_int mp (Nat.mod_lt _ (by omega))
  rw [mi] at i3
  have i4 := inverse_int (a := 2147483647 - a) (by omega) (by omega)
  rw [neg_inv h1 ha] at i4
  have c1 : ((a * b % 2147483647 : Nat) : Int) = (a : Int) * b % 2147483647 := by simp
  have c2 : ((inv a * inv b % 2147483647 : Nat) : Int) = (inv a : Int) * inv b % 2147483647 := by simp
  have c3 : ((2147483647 - a : Nat) : Int) = 2147483647 - (a : Int) := by omega
  have c4 : ((2147483647 - inv a : Nat) : Int) = 2147483647 - (inv a : Int) := by omega
  rw [c1, c2] at i3
  rw [c3, c4] at i4
  -- the polys
  have ra : ∀ x ∈ ([(a : Int)] : List Int), isR x := fun x hx => by
    rw [List.mem_singleton.mp hx]
    exact ⟨by omega, by omega⟩
  have rx : ∀ x ∈ ([(inv a : Int)] : List Int), isR x := fun x hx => by
    rw [List.mem_singleton.mp hx]
    exact ⟨by omega, by omega⟩
  have r1 : ∀ x ∈ ([1] : List Int), isR x := fun x hx => by
    rw [List.mem_singleton.mp hx]
    exact ⟨by omega, by omega⟩
  have rb : ∀ x ∈ ([(b : Int), 0, (b : Int)] : List Int), isR x := fun x hx => by
    simp only [List.mem_cons, List.not_mem_nil, or_false] at hx
    rcases hx with rfl | rfl | rfl <;> exact ⟨by omega, by omega⟩
  have ta : trn [(a : Int)] 1 = 1 := by
    unfold trn
    rw [if_neg]
    simp
    omega
  have tb : trn [(b : Int), 0, (b : Int)] 3 = 3 := by
    unfold trn
    rw [if_neg]
    simp
    omega
  have t1 := trimmed_tup [1] (by decide)
  have t2 := trimmed_tup [(a : Int)] (by simp)
  have t3 := trimmed_tup [(b : Int), 0, (b : Int)] (by simp)
  have t4 := trimmed_lst true [0] (by decide)
  have t5 := trimmed_lst true [0, 0, 0] (by decide)
  have t2' : d_trimmed [.tup [.int a]] = .ok (.lst true [.int a]) [.tup [.int a]] := by
    have z : List.take (trn [(a : Int)] [(a : Int)].length) [(a : Int)] = [(a : Int)] := by
      show List.take (trn [(a : Int)] 1) _ = _
      rw [ta]
      rfl
    rw [z] at t2
    exact t2
  have t3' : d_trimmed [.tup [.int b, .int 0, .int b]] = .ok (.lst true [.int b, .int 0, .int b]) [.tup [.int b, .int 0, .int b]] := by
    have z : List.take (trn [(b : Int), 0, (b : Int)] [(b : Int), 0, (b : Int)].length) [(b : Int), 0, (b : Int)] = [(b : Int), 0, (b : Int)] := by
      show List.take (trn [(b : Int), 0, (b : Int)] 3) _ = _
      rw [tb]
      rfl
    rw [z] at t3
    exact t3
  obtain ⟨z, hz⟩ : ∃ z : Nat, z = b * inv a % 2147483647 := ⟨_, rfl⟩
  have cz : (b : Int) * inv a % 2147483647 = z := by rw [hz]; simp
  have lz : z < 2147483647 := by rw [hz]; exact Nat.mod_lt _ (by omega)
  have ez : z * a % 2147483647 = b := by
    rw [hz, Nat.mod_mul_mod, Nat.mul_assoc, Nat.mul_mod, Nat.mul_comm (inv a), e, Nat.mul_one, Nat.mod_mod, Nat.mod_eq_of_lt hb]
  have kz : ((b : Int) - (z : Int) * a) % 2147483647 = 0 := by
    rw [← Int.natCast_mul]
    omega
  have kx : ((1 : Int) - (inv a : Int) * a) % 2147483647 = 0 := by
    rw [← Int.natCast_mul, Nat.mul_comm]
    omega
  have ka : (a : Int) * inv a % 2147483647 = 1 := by
    rw [← Int.natCast_mul]
    omega
  have Q1 : d_quotient_of [.tup [.int 1], .tup [.int a]] = .ok (.lst true [.int (inv a)]) [.tup [.int 1], .tup [.int a]] :=
    o_quot1 (gi := d_inverse_of) (gt := d_trimmed) io t1 t2' t4 (by omega) (mulC_r (by omega) (by omega)) (mulC_r (by omega) (by omega)) kx
  have Q2 : d_quotient_of [.tup [.int b, .int 0, .int b], .tup [.int a]] = .ok (.lst true [.int z, .int 0, .int z]) [.tup [.int b, .int 0, .int b], .tup [.int a]] :=
    o_quot3 (gi := d_inverse_of) (gt := d_trimmed) io t3' t2' t5 cz (mulC_r (by omega) (by omega)) (mulC_r (by omega) (by omega)) (mulC_r (by omega) (by omega)) (mulC_r (by omega) (by omega)) kz
  have q1 : d_quotient [.tup [.int 1], .tup [.int a]] = .ok (.tup [.int (inv a)]) [.tup [.int 1], .tup [.int a]] :=
    o_quotient (gm := d_made_poly) (gq := d_quotient_of) (gt := d_trimmed) rfl rfl rfl rfl rfl rfl (made_ok (xs := [1]) r1 (by decide)) (made_ok (xs := [(a : Int)]) ra (by simp)) t2' (by simp) rfl rfl Q1 rfl
  have q2 : d_quotient [.tup [.int b, .int 0, .int b], .tup [.int a]] = .ok (.tup [.int z, .int 0, .int z]) [.tup [.int b, .int 0, .int b], .tup [.int a]] :=
    o_quotient (gm := d_made_poly) (gq := d_quotient_of) (gt := d_trimmed) rfl rfl rfl rfl rfl rfl (made_ok (xs := [(b : Int), 0, (b : Int)]) rb (by simp)) (made_ok (xs := [(a : Int)]) ra (by simp)) t2' (by simp) rfl rfl Q2 rfl
  have P1 : d_product_of [.tup [.int a], .tup [.int (inv a)]] = .ok (.lst true [.int 1]) [.tup [.int a], .tup [.int (inv a)]] := o_product (by omega) (mulC_r (by omega) (by omega)) ka
  have pt : d_times [.tup [.int a], .tup [.int (inv a)]] = .ok (.tup [.int 1]) [.tup [.int a], .tup [.int (inv a)]] :=
    o_times (gm := d_made_poly) (gp := d_product_of) rfl rfl rfl rfl rfl rfl (made_ok (xs := [(a : Int)]) ra (by simp)) (made_ok (xs := [(inv a : Int)]) rx (by simp)) P1
  have rw' := row_int (b := (b : Int)) (x := (inv a : Int)) (mulC_r (by omega) (by omega))
  rw [cz] at rw'
  have T := o_told (gi := d_inverse) (gh := d_law_c4_heard) (gv := d_law_c4_is_inverse) (go := d_law_c4_other) (gr := d_law_c4_row) (gt := d_law_c4_tells) (gq := d_quotient) (gm := d_times) (a := a) (b := b) (x := inv a) (y := inv b)
    (inverse_int h1 ha) i2 i3 i4 (heard_tok rfl) (other_int h2 hb) (is_inv h1 ha) (is_inv h2 hb) (fun z => tells_gd rfl (by simp [sz])) (fun z => tells_gd rfl (by simp [sz, szs])) (fun z u v => tells_gd rfl (by simp [sz, szs]))
    (mulC_r (by omega) (by omega)) (mulC_r (by omega) (by omega)) (by rw [cz]; exact rw') q1 (by rw [cz]; exact q2) pt
  exact T
end Law
end

section
set_option Elab.async false
set_option linter.all false
set_option maxRecDepth 100000
set_option maxHeartbeats 4000000
namespace Law
open Y
/-! ### the jar -/
/-- digits, a stir, a count up to m -/
def Jar (m : Nat) (j : D) : Prop := ∃ d s n : Int, j = .lst true [.int d, .int s, .int n] ∧ 0 ≤ d ∧ 0 ≤ s ∧ s < 2147483647 ∧ 0 ≤ n ∧ n ≤ m
theorem take_pos {d s n k : Int} (hd : 0 < d) (hk : 0 < k) (h9 : fdivC d k = true) : d_law_take [.lst true [.int d, .int s, .int n], .int k] = .ok (.int (d % k)) [.lst true [.int (d / k), .int s, .int n], .int k] := by
  have a0 : ∀ u v w : Int, ixD (.lst true [.int u, .int v, .int w]) (.int 0) = some (.int u) := fun _ _ _ => rfl
  have e4 : L2.ixN 3 0 = some 0 := rfl
  simp [d_law_take, b_law_take, fx_law_take, nk0, fnD, outD, sq, sRet, sIf, sNil, sExpr, sSet, sPar, sAsg, sSto, putAt, onE, onT, andV, orV, notV, andT, orT, notT, ifE, tst, Rz.bind, nm, vl, cst, bin, uno, chn, dsp, acons, anil, callD, okA, lendD, wbD, runL, mtD, appL, extL, popL, Hdl.get, valsOf, D.nks, D.nk, D.pl, D.pls, D.frz, D.frzs, nkU, isiD, isiB, iop, iopC, ltD, leD, gtD, geD, addD, subD, mulD, modD, fdivD, negD, modC, isND, notND, isNB, gN, gT, gC, gNo, lamD, frzAll, cloOf, onlyD, intD, a0, e4, hd, hk, h9]
theorem take_zero {s n k : Int} (hs : 0 ≤ s ∧ s < 2147483647) (hn : 0 ≤ n ∧ n < 1000000) (hk : 0 < k) : ∃ s' r : Int, 0 ≤ s' ∧ s' < 2147483647 ∧ 0 ≤ r ∧ r < k ∧ d_law_take [.lst true [.int 0, .int s, .int n], .int k] = .ok (.int r) [.lst true [.int 0, .int s', .int (n + 1)], .int k] := by
  have a0 : ∀ u v w : Int, ixD (.lst true [.int u, .int v, .int w]) (.int 0) = some (.int u) := fun _ _ _ => rfl
  have a1 : ∀ u v w : Int, ixD (.lst true [.int u, .int v, .int w]) (.int 1) = some (.int v) := fun _ _ _ => rfl
  have a2 : ∀ u v w : Int, ixD (.lst true [.int u, .int v, .int w]) (.int 2) = some (.int w) := fun _ _ _ => rfl
  have e4 : L2.ixN 3 1 = some 1 := rfl
  have e5 : L2.ixN 3 2 = some 2 := rfl
  obtain ⟨s', hs'⟩ : ∃ s' : Int, s' = (s * 39373 + 7919 * (n + 1) + 7) % 2147483647 := ⟨_, rfl⟩
  have b1 : 0 ≤ s' := by rw [hs']; exact Int.emod_nonneg _ (by omega)
  have b2 : s' < 2147483647 := by rw [hs']; exact Int.emod_lt_of_pos _ (by omega)
  have m1 : mulC s 39373 = true := mulC_r (by omega) (by omega)
  have m2 : mulC 7919 (n + 1) = true := mulC_r (by omega) (by omega)
  have m3 : mulC s' s' = true := mulC_r (by omega) (by omega)
  have f1 : ∀ x : Int, fdivC x 32 = true := fun _ => rfl
  refine ⟨s', (s' * s' % 2147483629 / 32) % k, b1, b2, Int.emod_nonneg _ (by omega), Int.emod_lt_of_pos _ hk, ?_⟩
  simp [d_law_take, b_law_take, fx_law_take, nk0, fnD, outD, sq, sRet, sIf, sNil, sExpr, sSet, sPar, sAsg, sSto, putAt, onE, onT, andV, orV, notV, andT, orT, notT, ifE, tst, Rz.bind, nm, vl, cst, bin, uno, chn, dsp, acons, anil, callD, okA, lendD, wbD, runL, mtD, appL, extL, popL, Hdl.get, valsOf, D.nks, D.nk, D.pl, D.pls, D.frz, D.frzs, nkU, isiD, isiB, iop, iopC, ltD, leD, gtD, geD, addD, subD, mulD, modD, fdivD, negD, modC, isND, notND, isNB, gN, gT, gC, gNo, lamD, frzAll, cloOf, onlyD, intD, a0, a1, a2, e4, e5, hk, m1, m2, ← hs', m3, f1]
theorem take_jar {j : D} {m : Nat} {k : Int} (h : Jar m j) (hm : m < 900000) (hk : 0 < k) (h9 : k.natAbs.log2 < 9000) : ∃ r j', 0 ≤ r ∧ r < k ∧ Jar (m + 1) j' ∧ d_law_take [j, .int k] = .ok (.int r) [j', .int k] := by
  obtain ⟨d, s, n, rfl, h1, h2, h3, h4, h5⟩ := h
  by_cases hd : 0 < d
  · refine ⟨d % k, _, Int.emod_nonneg _ (by omega), Int.emod_lt_of_pos _ hk, ⟨d / k, s, n, rfl, Int.ediv_nonneg h1 (by omega), h2, h3, h4, by omega⟩, take_pos hd hk ?_⟩
    unfold fdivC
    rw [Bool.and_eq_true]
    exact ⟨decide_eq_true hk, decide_eq_true h9⟩
  · have e : d = 0 := by omega
    subst e
    obtain ⟨s', r, b1, b2, b3, b4, e⟩ := take_zero ⟨h2, h3⟩ ⟨h4, by omega⟩ hk
    exact ⟨r, _, b3, b4, ⟨0, s', n + 1, rfl, Int.le_refl _, b1, b2, by omega, by omega⟩, e⟩
end Law
end

section
set_option Elab.async false
set_option linter.all false
set_option maxRecDepth 100000
set_option maxHeartbeats 4000000
namespace Law
open Y
theorem o_one {a b c a' b' c' r v : Int} {q : List D} {k : Int} {g : List D → Rt} (hq : D.nks q = true) (hp : D.pls q = true) (hl : (q.length : Int) = k) (c1 : g [.lst true [.int a, .int b, .int c], .int k] = .ok (.int r) [.lst true [.int a', .int b', .int c'], .int k]) (hr : ixD (.lst true q) (.int r) = some (.int v)) :
    nk0 (fnD 2 2 fx_law_one (B_law_one g)) [.lst true [.int a, .int b, .int c], .lst true q] = .ok (.int v) [.lst true [.int a', .int b', .int c'], .lst true q] := by
  simp [B_law_one, fx_law_one, nk0, fnD, outD, sq, sRet, sIf, sNil, sExpr, sSet, sPar, sAsg, sSto, putAt, onE, onT, andV, orV, notV, andT, orT, notT, ifE, tst, Rz.bind, nm, vl, cst, bin, uno, chn, dsp, acons, anil, callD, okA, lendD, wbD, runL, mtD, appL, extL, popL, Hdl.get, valsOf, D.nks, D.nk, D.pl, D.pls, D.frz, D.frzs, nkU, isiD, isiB, iop, iopC, ltD, leD, gtD, geD, addD, subD, mulD, modD, fdivD, negD, modC, isND, notND, isNB, gN, gT, gC, gNo, lamD, frzAll, cloOf, onlyD, lenD, hl, c1, hr, hq, hp]
theorem one_jar {j : D} {m : Nat} {xs : List Int} (h : Jar m j) (hm : m < 900000) (h0 : xs ≠ []) (hl : xs.length ≤ 1000) : ∃ v j', v ∈ xs ∧ Jar (m + 1) j' ∧ d_law_one [j, .lst true (iL xs)] = .ok (.int v) [j', .lst true (iL xs)] := by
  have lp : 0 < xs.length := List.length_pos_iff.mpr h0
  have lg : (xs.length : Int).natAbs.log2 < 9000 := by
    have : (xs.length : Int).natAbs = xs.length := Int.natAbs_natCast _
    rw [this]
    exact (Nat.log2_lt (by omega)).mpr (Nat.lt_of_lt_of_le (show xs.length < 2 ^ 10 by omega) (Nat.pow_le_pow_right (by omega) (by omega)))
  obtain ⟨r, j', r0, r1, hj, e⟩ := take_jar h hm (k := (xs.length : Int)) (by omega) lg
  obtain ⟨d, s, n, rfl, _⟩ := h
  obtain ⟨d', s', n', rfl, hj'⟩ := hj
  have hr : r.toNat < xs.length := by omega
  have er : ((r.toNat : Nat) : Int) = r := by omega
  have ix := ix_ints (q := .lst true (iL xs)) (.inr ⟨true, rfl⟩) (List.getElem?_eq_getElem hr)
  rw [er] at ix
  exact ⟨xs[r.toNat], _, List.getElem_mem hr, ⟨d', s', n', rfl, hj'⟩, o_one (g := d_law_take) (nks_iL xs) (pls_iL xs) (by rw [len_iL]) e ix⟩
abbrev poolL (l v : Int) : List Int := [0, 1, 2, 3, 7, 2147483646, 2147483645, 1073741823, 1073741824, l, 2147483646 - l, v, v, v]
theorem o_residue {a b c a1 b1 c1 a2 b2 c2 a3 b3 c3 l u x : Int} {go gt : List D → Rt} (t1 : gt [.lst true [.int a, .int b, .int c], .int 65536] = .ok (.int l) [.lst true [.int a1, .int b1, .int c1], .int 65536])
    (t2 : gt [.lst true [.int a1, .int b1, .int c1], .int 32768] = .ok (.int u) [.lst true [.int a2, .int b2, .int c2], .int 32768]) (m : mulC l 32768 = true)
    (o1 : go [.lst true [.int a2, .int b2, .int c2], .lst true (iL (poolL l ((l * 32768 + u) % 2147483647)))] = .ok (.int x) [.lst true [.int a3, .int b3, .int c3], .lst true (iL (poolL l ((l * 32768 + u) % 2147483647)))]) :
    nk0 (fnD 1 3 fx_law_yv_residue (B_law_yv_residue go gt)) [.lst true [.int a, .int b, .int c]] = .ok (.int x) [.lst true [.int a3, .int b3, .int c3]] := by
  have e1 : ∀ v : Int, mulD (.lst true [.int v]) (.int 3) = some (.lst true [.int v, .int v, .int v]) := fun _ => rfl
  have e2 : mulD (.int l) (.int 32768) = some (.int (l * 32768)) := by simp [mulD, m]
  simp only [iL, poolL, List.map] at o1
  simp [B_law_yv_residue, fx_law_yv_residue, nk0, fnD, outD, sq, sRet, sIf, sNil, sExpr, sSet, sPar, sAsg, sSto, putAt, onE, onT, andV, orV, notV, andT, orT, notT, ifE, tst, Rz.bind, nm, vl, cst, bin, uno, chn, dsp, acons, anil, callD, okA, lendD, wbD, runL, mtD, appL, extL, popL, Hdl.get, valsOf, D.nks, D.nk, D.pl, D.pls, D.frz, D.frzs, nkU, isiD, isiB, iop, iopC, ltD, leD, gtD, geD, addD, subD, modD, fdivD, negD, modC, isND, notND, isNB, gN, gT, gC, gNo, lamD, frzAll, cloOf, onlyD, intD, t1, t2, o1, e1, e2]
theorem residue_jar {j : D} {m : Nat} (h : Jar m j) (hm : m < 800000) : ∃ x j', 0 ≤ x ∧ x < 2147483647 ∧ Jar (m + 3) j' ∧ d_law_yv_residue [j] = .ok (.int x) [j'] := by
  obtain ⟨l, j1, l0, l1, h1, e1⟩ := take_jar h (by omega) (k := 65536) (by omega) (by decide)
  obtain ⟨u, j2, u0, u1, h2, e2⟩ := take_jar h1 (by omega) (k := 32768) (by omega) (by decide)
  obtain ⟨v, hv⟩ : ∃ v : Int, v = (l * 32768 + u) % 2147483647 := ⟨_, rfl⟩
  have v0 : 0 ≤ v := by rw [hv]; exact Int.emod_nonneg _ (by omega)
  have v1 : v < 2147483647 := by rw [hv]; exact Int.emod_lt_of_pos _ (by omega)
  obtain ⟨x, j3, hx, h3, e3⟩ := one_jar (xs := poolL l v) h2 (by omega) (by simp) (by simp)
  rw [hv] at e3
  obtain ⟨_, _, _, rfl, _⟩ := h
  obtain ⟨_, _, _, rfl, _⟩ := h1
  obtain ⟨_, _, _, rfl, _⟩ := h2
  obtain ⟨a3, b3, c3, rfl, hj⟩ := h3
  refine ⟨x, _, ?_, ?_, ⟨a3, b3, c3, rfl, hj⟩, o_residue (go := d_law_one) (gt := d_law_take) e1 e2 (mulC_r (by omega) (by omega)) e3⟩
  · simp only [poolL, List.mem_cons, List.not_mem_nil, or_false] at hx
    omega
  · simp only [poolL, List.mem_cons, List.not_mem_nil, or_false] at hx
    omega
end Law
end

section
set_option Elab.async false
set_option linter.all false
set_option maxRecDepth 100000
set_option maxHeartbeats 4000000
namespace Law
open Y
abbrev plB : SDen := sq (sSet 4 (uno intD (bin max2D (bin ixD (nm 0) (nm 3)) (bin subD (uno negD (cst (.int 1))) (bin ixD (nm 0) (nm 3))))))
    (sq (sSet 2 (bin modD (uno intD (bin addD (bin addD (bin mulD (nm 2) (cst (.int 48271))) (bin modD (nm 4) (cst (.int 2147483629)))) (cst (.int 11)))) (cst (.int 2147483647))))
    (sSet 1 (ifE (andT (tst (bin geD (nm 4) (bin powD (cst (.int 10)) (cst (.int 12))))) (tst (bin ltD (nm 1) (bin powD (cst (.int 10)) (cst (.int 60)))))) (uno intD (bin addD (bin mulD (nm 1) (bin powD (cst (.int 10)) (cst (.int 60)))) (bin modD (nm 4) (bin powD (cst (.int 10)) (cst (.int 60)))))) (vl 1))))
theorem pow_of {i j k : Int} (hc : powC i j = true) (h : i ^ j.toNat = k) : powD (.int i) (.int j) = some (.int k) := by
  show (if powC i j = true then some (D.int (i ^ j.toNat)) else none) = _
  rw [if_pos hc, h]
theorem pow60 : powD (.int 10) (.int 60) = some (.int 1000000000000000000000000000000000000000000000000000000000000) := pow_of (by decide +kernel) (by decide +kernel)
theorem pow12 : powD (.int 10) (.int 12) = some (.int 1000000000000) := pow_of (by decide +kernel) (by decide +kernel)
theorem pl_body {ns : List Int} {d s z : Int} {i : Int} {x : D} (hi : ixD (.scr ns) (.int i) = some (.int z)) (hd : 0 ≤ d) (hs : 0 ≤ s ∧ s < 2147483647) : ∃ (d' s' : Int) (x' : D), 0 ≤ d' ∧ 0 ≤ s' ∧ s' < 2147483647 ∧ plB [.scr ns, .int d, .int s, .int i, x] = .nx [.scr ns, .int d', .int s', .int i, x'] := by
  obtain ⟨Q, hQ⟩ : ∃ Q : Int, powD (.int 10) (.int 60) = some (.int Q) ∧ 0 < Q ∧ Q.natAbs < 2 ^ 200 := ⟨1000000000000000000000000000000000000000000000000000000000000, pow60, by decide, by decide⟩
  obtain ⟨p60, q0, q2⟩ := hQ
  obtain ⟨R, hR⟩ : ∃ R : Int, powD (.int 10) (.int 12) = some (.int R) := ⟨1000000000000, pow12⟩
  obtain ⟨c, hc⟩ : ∃ c : Int, max2D (.int z) (.int (-1 - z)) = some (.int c) := ⟨_, rfl⟩
  have m1 : mulD (.int s) (.int 48271) = some (.int (s * 48271)) := by
    have : mulC s 48271 = true := mulC_r (by omega) (by omega)
    simp [mulD, this]
  have mQ : ∀ y : Int, modD (.int y) (.int Q) = some (.int (y % Q)) := fun y => by
    simp [modD, iopC, modC, q0]
  have mP : ∀ y : Int, modD (.int y) (.int 2147483647) = some (.int (y % 2147483647)) := fun y => rfl
  have mS : ∀ y : Int, modD (.int y) (.int 2147483629) = some (.int (y % 2147483629)) := fun y => rfl
  obtain ⟨s', hs'⟩ : ∃ s' : Int, s' = (s * 48271 + c % 2147483629 + 11) % 2147483647 := ⟨_, rfl⟩
  have b1 : 0 ≤ s' := by rw [hs']; exact Int.emod_nonneg _ (by omega)
  have b2 : s' < 2147483647 := by rw [hs']; exact Int.emod_lt_of_pos _ (by omega)
  by_cases g1 : R ≤ c
  · by_cases g2 : d < Q
    · have m2 : mulD (.int d) (.int Q) = some (.int (d * Q)) := by
        have : mulC d Q = true := mulC_of (a := 200) (b := 200) (by omega) q2 (by decide)
        simp [mulD, this]
      refine ⟨d * Q + c % Q, s', .int c, Int.add_nonneg (Int.mul_nonneg hd (by omega)) (Int.emod_nonneg _ (by omega)), b1, b2, ?_⟩
      simp [plB, nk0, fnD, outD, sq, sRet, sIf, sNil, sExpr, sSet, sPar, sAsg, sSto, putAt, onE, onT, andV, orV, notV, andT, orT, notT, ifE, tst, Rz.bind, nm, vl, cst, bin, uno, chn, dsp, acons, anil, callD, okA, lendD, wbD, runL, mtD, appL, extL, popL, Hdl.get, valsOf, D.nks, D.nk, D.pl, D.pls, D.frz, D.frzs, nkU, isiD, isiB, iop, iopC, ltD, leD, gtD, geD, addD, subD, fdivD, negD, isND, notND, isNB, gN, gT, gC, gNo, lamD, frzAll, cloOf, onlyD, intD, hi, hc, m1, m2, mQ, mP, mS, p60, hR, g1, g2, hs']
    · refine ⟨d, s', .int c, hd, b1, b2, ?_⟩
      simp [plB, nk0, fnD, outD, sq, sRet, sIf, sNil, sExpr, sSet, sPar, sAsg, sSto, putAt, onE, onT, andV, orV, notV, andT, orT, notT, ifE, tst, Rz.bind, nm, vl, cst, bin, uno, chn, dsp, acons, anil, callD, okA, lendD, wbD, runL, mtD, appL, extL, popL, Hdl.get, valsOf, D.nks, D.nk, D.pl, D.pls, D.frz, D.frzs, nkU, isiD, isiB, iop, iopC, ltD, leD, gtD, geD, addD, subD, fdivD, negD, isND, notND, isNB, gN, gT, gC, gNo, lamD, frzAll, cloOf, onlyD, intD, hi, hc, m1, mQ, mP, mS, p60, hR, g1, g2, hs']
  · refine ⟨d, s', .int c, hd, b1, b2, ?_⟩
    simp [plB, nk0, fnD, outD, sq, sRet, sIf, sNil, sExpr, sSet, sPar, sAsg, sSto, putAt, onE, onT, andV, orV, notV, andT, orT, notT, ifE, tst, Rz.bind, nm, vl, cst, bin, uno, chn, dsp, acons, anil, callD, okA, lendD, wbD, runL, mtD, appL, extL, popL, Hdl.get, valsOf, D.nks, D.nk, D.pl, D.pls, D.frz, D.frzs, nkU, isiD, isiB, iop, iopC, ltD, leD, gtD, geD, addD, subD, fdivD, negD, isND, notND, isNB, gN, gT, gC, gNo, lamD, frzAll, cloOf, onlyD, intD, hi, hc, m1, mQ, mP, mS, p60, hR, g1, hs']
theorem pl_loop {ns : List Int} : ∀ (js : List Nat) (d s : Int) (x y : D), (∀ j ∈ js, j < ns.length) → 0 ≤ d → 0 ≤ s ∧ s < 2147483647 → ∃ (d' s' : Int) (x' y' : D), 0 ≤ d' ∧ (0 ≤ s' ∧ s' < 2147483647) ∧ forL (gN 3) plB (js.map fun j => .int (0 + (j : Nat) * 1)) [.scr ns, .int d, .int s, x, y] = .nx [.scr ns, .int d', .int s', x', y']
  | [], d, s, x, y, hj, hd, hs => ⟨d, s, x, y, hd, hs, rfl⟩
  | j :: js, d, s, x, y, hj, hd, hs => by
    have hj0 := hj j List.mem_cons_self
    have hi : ixD (.scr ns) (.int (j : Int)) = some (.int ns[j]) := by
      show (L2.atI ns (j : Int)).map D.int = _
      rw [L2.atI_nat (List.getElem?_eq_getElem hj0)]
      rfl
    obtain ⟨d1, s1, x1, a1, a2, a3, e1⟩ := pl_body (x := y) hi hd hs
    obtain ⟨d', s', x', y', b1, b2, e2⟩ := pl_loop (ns := ns) js d1 s1 (.int (j : Int)) x1 (fun k hk => hj k (List.mem_cons_of_mem _ hk)) a1 ⟨a2, a3⟩
    refine ⟨d', s', x', y', b1, b2, ?_⟩
    have e3 : (0 : Int) + (j : Int) * 1 = (j : Int) := by omega
    rw [List.map_cons, e3]
    exact (forL_go rfl e1).trans e2
theorem pool_ok {ns : List Int} (hl : ns.length ≤ 63) : ∃ j, Jar 0 j ∧ d_law_pool [.scr ns] = .ok j [.scr ns] := by
  obtain ⟨d', s', x', y', b1, b2, e⟩ := pl_loop (ns := ns) (List.range ns.length) 0 7 .un .un (fun j hj => List.mem_range.mp hj) (by omega) (by omega)
  refine ⟨.lst true [.int d', .int s', .int 0], ⟨d', s', 0, rfl, b1, b2.1, b2.2, by omega, by omega⟩, ?_⟩
  have e1 : rgS1 (uno lenD (nm 0)) [.scr ns, .int 0, .int 7, .un, .un] = .ok ((List.range ns.length).map fun j => .int (0 + (j : Nat) * 1)) [.scr ns, .int 0, .int 7, .un, .un] := by
    have : inRg (ns.length : Int) = true := by
      unfold inRg
      rw [Bool.and_eq_true]
      exact ⟨decide_eq_true (by omega), decide_eq_true (by omega)⟩
    simp [rgS1, nk0, fnD, outD, sq, sRet, sIf, sNil, sExpr, sSet, sPar, sAsg, sSto, putAt, onE, onT, andV, orV, notV, andT, orT, notT, ifE, tst, Rz.bind, nm, vl, cst, bin, uno, chn, dsp, acons, anil, callD, okA, lendD, wbD, runL, mtD, appL, extL, popL, Hdl.get, valsOf, D.nks, D.nk, D.pl, D.pls, D.frz, D.frzs, nkU, isiD, isiB, iop, iopC, ltD, leD, gtD, geD, addD, subD, mulD, modD, fdivD, negD, modC, isND, notND, isNB, ixD, plO, gN, gT, gC, gNo, lamD, frzAll, cloOf, onlyD, lenD, intOf, this, rgD]
  have e2 : b_law_pool [.scr ns, .un, .un, .un, .un] = .rt (.lst true [.int d', .int s', .int 0]) [.scr ns, .int d', .int s', x', y'] := by
    show sq (sAsg (dsp .tup (acons (cst (.int 0)) (acons (cst (.int 7)) (anil)))) (gT 2 (gC (gN 1) (gC (gN 2) (gNo))))) (sq (sFor (rgS1 (uno lenD (nm 0))) (gN 3) plB) (sRet (dsp (.lst true) (acons (vl 1) (acons (vl 2) (acons (cst (.int 0)) (anil))))))) [.scr ns, .un, .un, .un, .un] = _
    have e0 : sAsg (dsp .tup (acons (cst (.int 0)) (acons (cst (.int 7)) (anil)))) (gT 2 (gC (gN 1) (gC (gN 2) (gNo)))) [.scr ns, .un, .un, .un, .un] = .nx [.scr ns, .int 0, .int 7, .un, .un] := by simp [nk0, fnD, outD, sq, sRet, sIf, sNil, sExpr, sSet, sPar, sAsg, sSto, putAt, onE, onT, andV, orV, notV, andT, orT, notT, ifE, tst, Rz.bind, nm, vl, cst, bin, uno, chn, dsp, acons, anil, callD, okA, lendD, wbD, runL, mtD, appL, extL, popL, Hdl.get, valsOf, D.nks, D.nk, D.pl, D.pls, D.frz, D.frzs, nkU, isiD, isiB, iop, iopC, ltD, leD, gtD, geD, addD, subD, mulD, modD, fdivD, negD, modC, isND, notND, isNB, ixD, plO, gN, gT, gC, gNo, lamD, frzAll, cloOf, onlyD]
    unfold sq
    rw [e0]
    simp only [sFor, e1, e]
    simp [nk0, fnD, outD, sq, sRet, sIf, sNil, sExpr, sSet, sPar, sAsg, sSto, putAt, onE, onT, andV, orV, notV, andT, orT, notT, ifE, tst, Rz.bind, nm, vl, cst, bin, uno, chn, dsp, acons, anil, callD, okA, lendD, wbD, runL, mtD, appL, extL, popL, Hdl.get, valsOf, D.nks, D.nk, D.pl, D.pls, D.frz, D.frzs, nkU, isiD, isiB, iop, iopC, ltD, leD, gtD, geD, addD, subD, mulD, modD, fdivD, negD, modC, isND, notND, isNB, ixD, plO, gN, gT, gC, gNo, lamD, frzAll, cloOf, onlyD]
  have o : ∀ b : SDen, b [.scr ns, .un, .un, .un, .un] = .rt (.lst true [.int d', .int s', .int 0]) [.scr ns, .int d', .int s', x', y'] → nk0 (fnD 1 5 fx_law_pool b) [.scr ns] = .ok (.lst true [.int d', .int s', .int 0]) [.scr ns] := fun b h => by
    simp [nk0, fnD, outD, sq, sRet, sIf, sNil, sExpr, sSet, sPar, sAsg, sSto, putAt, onE, onT, andV, orV, notV, andT, orT, notT, ifE, tst, Rz.bind, nm, vl, cst, bin, uno, chn, dsp, acons, anil, callD, okA, lendD, wbD, runL, mtD, appL, extL, popL, Hdl.get, valsOf, D.nks, D.nk, D.pl, D.pls, D.frz, D.frzs, nkU, isiD, isiB, iop, iopC, ltD, leD, gtD, geD, addD, subD, mulD, modD, fdivD, negD, modC, isND, notND, isNB, ixD, plO, gN, gT, gC, gNo, lamD, frzAll, cloOf, onlyD, fx_law_pool, h]
  exact o _ e2
end Law
end

section
set_option Elab.async false
set_option linter.all false
set_option maxRecDepth 100000
set_option maxHeartbeats 4000000
namespace Law
open Y
/-! ### what is refused -/
theorem o_bad {d : D} {g1 g2 : List D → Rt} (hd : gd d = true) (c1 : g1 [d] = .ok (.bl false) [d]) : nk0 (fnD 1 1 fx_inverse (B_inverse g2 g1)) [d] = .ex "BadResidue" d := by
  have f := gd_frz hd
  have n := gd_nk hd
  have p := gd_pl hd
  have e : B_inverse g2 g1 [d] = .ex "BadResidue" d [d] := by
    cases d <;> first | (cases hd; done) | (simp only [D.frz, D.nk, D.pl] at f n p; simp [B_inverse, nk0, fnD, outD, sq, sRet, sIf, sNil, sExpr, sSet, sPar, sAsg, sSto, putAt, onE, onT, andV, orV, notV, andT, orT, notT, ifE, tst, Rz.bind, nm, vl, cst, bin, uno, chn, dsp, acons, anil, callD, okA, lendD, wbD, runL, mtD, appL, extL, popL, Hdl.get, valsOf, D.nks, D.nk, D.pl, D.pls, D.frz, D.frzs, nkU, isiD, isiB, iop, iopC, ltD, leD, gtD, geD, addD, subD, mulD, modD, fdivD, negD, modC, isND, notND, isNB, ixD, plO, gN, gT, gC, gNo, lamD, frzAll, cloOf, onlyD, sRaise, c1, f, n, p]; done) | (simp [B_inverse, nk0, fnD, outD, sq, sRet, sIf, sNil, sExpr, sSet, sPar, sAsg, sSto, putAt, onE, onT, andV, orV, notV, andT, orT, notT, ifE, tst, Rz.bind, nm, vl, cst, bin, uno, chn, dsp, acons, anil, callD, okA, lendD, wbD, runL, mtD, appL, extL, popL, Hdl.get, valsOf, D.nks, D.nk, D.pl, D.pls, D.frz, D.frzs, nkU, isiD, isiB, iop, iopC, ltD, leD, gtD, geD, addD, subD, mulD, modD, fdivD, negD, modC, isND, notND, isNB, ixD, plO, gN, gT, gC, gNo, lamD, frzAll, cloOf, onlyD, sRaise, c1]; done) | skip
    all_goals (rename_i o ds; cases o <;> first | (cases hd; done) | (simp only [D.frz, D.nk, D.pl, D.lst.injEq] at f n p; simp [B_inverse, nk0, fnD, outD, sq, sRet, sIf, sNil, sExpr, sSet, sPar, sAsg, sSto, putAt, onE, onT, andV, orV, notV, andT, orT, notT, ifE, tst, Rz.bind, nm, vl, cst, bin, uno, chn, dsp, acons, anil, callD, okA, lendD, wbD, runL, mtD, appL, extL, popL, Hdl.get, valsOf, D.nks, D.nk, D.pl, D.pls, D.frz, D.frzs, nkU, isiD, isiB, iop, iopC, ltD, leD, gtD, geD, addD, subD, mulD, modD, fdivD, negD, modC, isND, notND, isNB, ixD, plO, gN, gT, gC, gNo, lamD, frzAll, cloOf, onlyD, sRaise, c1, f, n, p]; done))
  have h4 : fnD 1 1 fx_inverse (B_inverse g2 g1) [d] = .ex "BadResidue" d := by
    unfold fnD
    rw [if_pos (by rfl)]
    show (match B_inverse g2 g1 [d] with
      | .nx τ => _
      | .rt d τ => _
      | .ex n d _ => _
      | _ => _) = _
    rw [e]
    simp [n]
  unfold nk0
  rw [if_pos (by simp [D.nks, n]), h4]
  simp [n]
theorem o_zero {g1 g2 : List D → Rt} (c1 : g1 [.int 0] = .ok (.bl true) [.int 0]) : nk0 (fnD 1 1 fx_inverse (B_inverse g2 g1)) [.int 0] = .ex "BadResidue" (.int 0) := by
  simp [B_inverse, fx_inverse, nk0, fnD, outD, sq, sRet, sIf, sNil, sExpr, sSet, sPar, sAsg, sSto, putAt, onE, onT, andV, orV, notV, andT, orT, notT, ifE, tst, Rz.bind, nm, vl, cst, bin, uno, chn, dsp, acons, anil, callD, okA, lendD, wbD, runL, mtD, appL, extL, popL, Hdl.get, valsOf, D.nks, D.nk, D.pl, D.pls, D.frz, D.frzs, nkU, isiD, isiB, iop, iopC, ltD, leD, gtD, geD, addD, subD, mulD, modD, fdivD, negD, modC, isND, notND, isNB, ixD, plO, gN, gT, gC, gNo, lamD, frzAll, cloOf, onlyD, sRaise, eqD, eqB, c1]
def Odd' (d : D) : Prop := gd d = true ∧ sz d ≤ 100 ∧ d_inverse [d] = .ex "BadResidue" d
theorem odd_of {d : D} (hd : gd d = true) (hz : sz d ≤ 100) (c1 : d_is_residue [d] = .ok (.bl false) [d]) : Odd' d := ⟨hd, hz, o_bad (g1 := d_is_residue) (g2 := d_inverse_of) hd c1⟩
theorem odd_int {x : Int} (h : x < 0 ∨ 2147483647 ≤ x) : Odd' (.int x) := by
  refine odd_of rfl (by simp [sz]) ?_
  have c := is_residue_int x
  have e : (decide (0 ≤ x) && decide (x < 2147483647)) = false := by
    rw [Bool.and_eq_false_iff]
    rcases h with h | h
    · exact .inl (decide_eq_false (by omega))
    · exact .inr (decide_eq_false (by omega))
  rw [e] at c
  exact c
theorem odd_zero : Odd' (.int 0) := ⟨rfl, by decide, o_zero (g1 := d_is_residue) (g2 := d_inverse_of) (is_residue_int 0)⟩
abbrev rfB (g_inverse g_law_c4_heard g_law_yv_same : List D → Rt) : SDen := sIf (notT (tst (callD g_law_yv_same (acons (lamD g_law_c4_heard (callD g_inverse (acons (nm 2) (anil))) [2] (anil)) (acons (dsp .tup (acons (cst (.str "BadResidue")) (acons (vl 2) (anil)))) (anil)))))) (sRet (cst (.bl false))) (sNil)
theorem rf_body {js : List D} {l : Int} {d : D} {gi gh gs : List D → Rt} (hd : gd d = true) (i1 : gi [d] = .ex "BadResidue" d) (h1 : gh [.tex "BadResidue" d] = .ok (.tup [.str "BadResidue", d]) [.tex "BadResidue" d])
    (s1 : gs [.tup [.str "BadResidue", d], .tup [.str "BadResidue", d]] = .ok (.bl true) [.tup [.str "BadResidue", d], .tup [.str "BadResidue", d]]) : rfB gi gh gs [.lst true js, .int l, d] = .nx [.lst true js, .int l, d] := by
  have f := gd_frz hd
  have n := gd_nk hd
  have p := gd_pl hd
  cases d <;> first | (cases hd; done) | (simp only [D.frz, D.nk, D.pl, D.tup.injEq] at f n p; simp [rfB, nk0, fnD, outD, sq, sRet, sIf, sNil, sExpr, sSet, sPar, sAsg, sSto, putAt, onE, onT, andV, orV, notV, andT, orT, notT, ifE, tst, Rz.bind, nm, vl, cst, bin, uno, chn, dsp, acons, anil, callD, okA, lendD, wbD, runL, mtD, appL, extL, popL, Hdl.get, valsOf, D.nks, D.nk, D.pl, D.pls, D.frz, D.frzs, nkU, isiD, isiB, iop, iopC, ltD, leD, gtD, geD, addD, subD, mulD, modD, fdivD, negD, modC, isND, notND, isNB, ixD, plO, gN, gT, gC, gNo, lamD, frzAll, cloOf, onlyD, i1, h1, s1, f, n, p]; done) | (simp [rfB, nk0, fnD, outD, sq, sRet, sIf, sNil, sExpr, sSet, sPar, sAsg, sSto, putAt, onE, onT, andV, orV, notV, andT, orT, notT, ifE, tst, Rz.bind, nm, vl, cst, bin, uno, chn, dsp, acons, anil, callD, okA, lendD, wbD, runL, mtD, appL, extL, popL, Hdl.get, valsOf, D.nks, D.nk, D.pl, D.pls, D.frz, D.frzs, nkU, isiD, isiB, iop, iopC, ltD, leD, gtD, geD, addD, subD, mulD, modD, fdivD, negD, modC, isND, notND, isNB, ixD, plO, gN, gT, gC, gNo, lamD, frzAll, cloOf, onlyD, i1, h1, s1]; done) | skip
  all_goals (rename_i o ds; cases o <;> first | (cases hd; done) | (simp only [D.frz, D.nk, D.pl, D.lst.injEq] at f n p; simp [rfB, nk0, fnD, outD, sq, sRet, sIf, sNil, sExpr, sSet, sPar, sAsg, sSto, putAt, onE, onT, andV, orV, notV, andT, orT, notT, ifE, tst, Rz.bind, nm, vl, cst, bin, uno, chn, dsp, acons, anil, callD, okA, lendD, wbD, runL, mtD, appL, extL, popL, Hdl.get, valsOf, D.nks, D.nk, D.pl, D.pls, D.frz, D.frzs, nkU, isiD, isiB, iop, iopC, ltD, leD, gtD, geD, addD, subD, mulD, modD, fdivD, negD, modC, isND, notND, isNB, ixD, plO, gN, gT, gC, gNo, lamD, frzAll, cloOf, onlyD, i1, h1, s1, f, n, p]; done))
theorem rf_loop {js : List D} {l : Int} : ∀ (ds : List D) (x : D), (∀ d ∈ ds, Odd' d) → ∃ x', forL (gN 2) (rfB d_inverse d_law_c4_heard d_law_yv_same) ds [.lst true js, .int l, x] = .nx [.lst true js, .int l, x']
  | [], x, h => ⟨x, rfl⟩
  | d :: ds, x, h => by
    obtain ⟨h1, h2, h3⟩ := h d List.mem_cons_self
    obtain ⟨x', ih⟩ := rf_loop (js := js) (l := l) ds d fun y hy => h y (List.mem_cons_of_mem _ hy)
    have hg : gd (.tup [.str "BadResidue", d]) = true := by
      show gds [.str "BadResidue", d] = true
      simp [gds, gd, h1]
    have ht : d_law_c4_heard [.tex "BadResidue" d] = .ok (.tup [.str "BadResidue", d]) [.tex "BadResidue" d] := by
      have q := heard_tex (n := "BadResidue") (d := d) (by decide) (gd_nk h1)
      rw [if_pos rfl] at q
      exact q
    exact ⟨x', (forL_go rfl (rf_body (gi := d_inverse) (gh := d_law_c4_heard) (gs := d_law_yv_same) h1 h3 ht (same_refl hg (by simp [sz, szs]; omega)))).trans ih⟩
abbrev oddL (l : Int) : List D := [.int 0, .int 2147483647, .int (2147483648 + l), .int (-1), .int (-1 - l), .non, .bl true, .bl false, .str "1", .tup [.int 1], .lst false [.int 1], .tup [], .int 10000000000000000000000000000000000000000]
theorem odd_all {l : Int} (h0 : 0 ≤ l) : ∀ d ∈ oddL l, Odd' d := fun d hd => by
  have hb : ∀ {d : D}, gd d = true → sz d ≤ 100 → d_is_residue [d] = .ok (.bl false) [d] → Odd' d := fun a b c => odd_of a b c
  simp only [oddL, List.mem_cons, List.not_mem_nil, or_false] at hd
  rcases hd with rfl | rfl | rfl | rfl | rfl | rfl | rfl | rfl | rfl | rfl | rfl | rfl | rfl
  · exact odd_zero
  · exact odd_int (by omega)
  · exact odd_int (by omega)
  · exact odd_int (by omega)
  · exact odd_int (by omega)
  · exact hb rfl (by decide) rfl
  · exact hb rfl (by decide) rfl
  · exact hb rfl (by decide) rfl
  · exact hb rfl (by decide) rfl
  · exact hb rfl (by decide) rfl
  · exact hb rfl (by decide) rfl
  · exact hb rfl (by decide) rfl
  · exact odd_int (by omega)
abbrev oddE : Den (List Hdl) := acons (cst (.int 0)) (acons (cst (.int 2147483647)) (acons (bin addD (cst (.int 2147483648)) (nm 1)) (acons (uno negD (cst (.int 1))) (acons (bin subD (uno negD (cst (.int 1))) (nm 1)) (acons (cst .non) (acons (cst (.bl true)) (acons (cst (.bl false)) (acons (cst (.str "1")) (acons (dsp .tup (acons (cst (.int 1)) (anil))) (acons (dsp (.lst true) (acons (cst (.int 1)) (anil))) (acons (dsp .tup (anil)) (acons (bin powD (cst (.int 10)) (cst (.int 40))) (anil)))))))))))))
theorem o_refused {a b c a' b' c' l : Int} {x' : D} {gi gh gt gs : List D → Rt} (t1 : gt [.lst true [.int a, .int b, .int c], .int 1000] = .ok (.int l) [.lst true [.int a', .int b', .int c'], .int 1000])
    (e : forL (gN 2) (rfB gi gh gs) (oddL l) [.lst true [.int a', .int b', .int c'], .int l, .un] = .nx [.lst true [.int a', .int b', .int c'], .int l, x']) :
    nk0 (fnD 1 3 fx_law_c4_refused_right (B_law_c4_refused_right gi gh gt gs)) [.lst true [.int a, .int b, .int c]] = .ok (.bl true) [.lst true [.int a', .int b', .int c']] := by
  have p40 : powD (.int 10) (.int 40) = some (.int 10000000000000000000000000000000000000000) := pow_of (by decide +kernel) (by decide +kernel)
  have s1 : seqS (dsp (.lst true) oddE) [.lst true [.int a', .int b', .int c'], .int l, .un] = .ok (oddL l) [.lst true [.int a', .int b', .int c'], .int l, .un] := by
    simp [seqS, seqOf, oddE, oddL, nk0, fnD, outD, sq, sRet, sIf, sNil, sExpr, sSet, sPar, sAsg, sSto, putAt, onE, onT, andV, orV, notV, andT, orT, notT, ifE, tst, Rz.bind, nm, vl, cst, bin, uno, chn, dsp, acons, anil, callD, okA, lendD, wbD, runL, mtD, appL, extL, popL, Hdl.get, valsOf, D.nks, D.nk, D.pl, D.pls, D.frz, D.frzs, nkU, isiD, isiB, iop, iopC, ltD, leD, gtD, geD, addD, subD, mulD, modD, fdivD, negD, modC, isND, notND, isNB, ixD, plO, gN, gT, gC, gNo, lamD, frzAll, cloOf, onlyD, p40]
  have e2 : B_law_c4_refused_right gi gh gt gs [.lst true [.int a, .int b, .int c], .un, .un] = .rt (.bl true) [.lst true [.int a', .int b', .int c'], .int l, x'] := by
    show sq (sSet 1 (callD gt (acons (nm 0) (acons (cst (.int 1000)) (anil))))) (sq (sFor (seqS (dsp (.lst true) oddE)) (gN 2) (rfB gi gh gs)) (sRet (cst (.bl true)))) [.lst true [.int a, .int b, .int c], .un, .un] = _
    have e0 : sSet 1 (callD gt (acons (nm 0) (acons (cst (.int 1000)) (anil)))) [.lst true [.int a, .int b, .int c], .un, .un] = .nx [.lst true [.int a', .int b', .int c'], .int l, .un] := by simp [nk0, fnD, outD, sq, sRet, sIf, sNil, sExpr, sSet, sPar, sAsg, sSto, putAt, onE, onT, andV, orV, notV, andT, orT, notT, ifE, tst, Rz.bind, nm, vl, cst, bin, uno, chn, dsp, acons, anil, callD, okA, lendD, wbD, runL, mtD, appL, extL, popL, Hdl.get, valsOf, D.nks, D.nk, D.pl, D.pls, D.frz, D.frzs, nkU, isiD, isiB, iop, iopC, ltD, leD, gtD, geD, addD, subD, mulD, modD, fdivD, negD, modC, isND, notND, isNB, ixD, plO, gN, gT, gC, gNo, lamD, frzAll, cloOf, onlyD, t1]
    unfold sq
    rw [e0]
    simp only [sFor, s1, e]
    rfl
  have o : ∀ b0 : SDen, b0 [.lst true [.int a, .int b, .int c], .un, .un] = .rt (.bl true) [.lst true [.int a', .int b', .int c'], .int l, x'] → nk0 (fnD 1 3 fx_law_c4_refused_right b0) [.lst true [.int a, .int b, .int c]] = .ok (.bl true) [.lst true [.int a', .int b', .int c']] := fun b0 h => by
    simp [nk0, fnD, outD, sq, sRet, sIf, sNil, sExpr, sSet, sPar, sAsg, sSto, putAt, onE, onT, andV, orV, notV, andT, orT, notT, ifE, tst, Rz.bind, nm, vl, cst, bin, uno, chn, dsp, acons, anil, callD, okA, lendD, wbD, runL, mtD, appL, extL, popL, Hdl.get, valsOf, D.nks, D.nk, D.pl, D.pls, D.frz, D.frzs, nkU, isiD, isiB, iop, iopC, ltD, leD, gtD, geD, addD, subD, mulD, modD, fdivD, negD, modC, isND, notND, isNB, ixD, plO, gN, gT, gC, gNo, lamD, frzAll, cloOf, onlyD, fx_law_c4_refused_right, h]
  exact o _ e2
theorem refused_jar {j : D} {m : Nat} (h : Jar m j) (hm : m < 800000) : ∃ j', Jar (m + 1) j' ∧ d_law_c4_refused_right [j] = .ok (.bl true) [j'] := by
  obtain ⟨l, j1, l0, l1, h1, e1⟩ := take_jar h (by omega) (k := 1000) (by omega) (by decide)
  obtain ⟨_, _, _, rfl, _⟩ := h
  obtain ⟨a', b', c', rfl, hj⟩ := h1
  obtain ⟨x', e⟩ := rf_loop (js := [.int a', .int b', .int c']) (l := l) (oddL l) .un (odd_all l0)
  exact ⟨_, ⟨a', b', c', rfl, hj⟩, o_refused (gi := d_inverse) (gh := d_law_c4_heard) (gt := d_law_take) (gs := d_law_yv_same) e1 e⟩
/-! ### the law -/
abbrev lwB (g_told g_res : List D → Rt) : SDen := sq (sPar 3 4 (acons (bin max2D (cst (.int 1)) (callD g_res (acons (nm 1) (anil)))) (acons (bin max2D (cst (.int 1)) (callD g_res (acons (nm 1) (anil)))) (anil))))
    (sIf (notT (tst (callD g_told (acons (nm 3) (acons (nm 4) (anil)))))) (sRet (cst (.bl false))) (sNil))
def mx (x : Int) : Int := if x > 1 then x else 1
theorem o_law_body {ns : List Int} {a b c a1 b1 c1 a2 b2 c2 x y : Int} {i u v : D} {gt gr : List D → Rt} (r1 : gr [.lst true [.int a, .int b, .int c]] = .ok (.int x) [.lst true [.int a1, .int b1, .int c1]]) (r2 : gr [.lst true [.int a1, .int b1, .int c1]] = .ok (.int y) [.lst true [.int a2, .int b2, .int c2]])
    (t : gt [.int (mx x), .int (mx y)] = .ok (.bl true) [.int (mx x), .int (mx y)]) : lwB gt gr [.scr ns, .lst true [.int a, .int b, .int c], i, u, v] = .nx [.scr ns, .lst true [.int a2, .int b2, .int c2], i, .int (mx x), .int (mx y)] := by
  have e : ∀ z : Int, max2D (.int 1) (.int z) = some (.int (mx z)) := fun _ => rfl
  simp [lwB, nk0, fnD, outD, sq, sRet, sIf, sNil, sExpr, sSet, sPar, sAsg, sSto, putAt, onE, onT, andV, orV, notV, andT, orT, notT, ifE, tst, Rz.bind, nm, vl, cst, bin, uno, chn, dsp, acons, anil, callD, okA, lendD, wbD, runL, mtD, appL, extL, popL, Hdl.get, valsOf, D.nks, D.nk, D.pl, D.pls, D.frz, D.frzs, nkU, isiD, isiB, iop, iopC, ltD, leD, gtD, geD, addD, subD, mulD, modD, fdivD, negD, modC, isND, notND, isNB, ixD, plO, gN, gT, gC, gNo, lamD, frzAll, cloOf, onlyD, r1, r2, e, t]
theorem mx_nat {x : Int} (h0 : 0 ≤ x) (h1 : x < 2147483647) : ∃ n : Nat, 1 ≤ n ∧ n < 2147483647 ∧ mx x = n := by
  refine ⟨(mx x).toNat, ?_, ?_, ?_⟩ <;> unfold mx <;> split <;> omega
theorem lw_loop {ns : List Int} : ∀ (ds : List D) (m : Nat) (j i u v : D), Jar m j → m + 6 * ds.length < 700000 → ∃ j' i' u' v', Jar (m + 6 * ds.length) j' ∧ forL (gN 2) (lwB d_law_c4_told_right d_law_yv_residue) ds [.scr ns, j, i, u, v] = .nx [.scr ns, j', i', u', v']
  | [], m, j, i, u, v, h, hm => ⟨j, i, u, v, h, rfl⟩
  | d :: ds, m, j, i, u, v, h, hm => by
    simp only [List.length_cons] at hm ⊢
    obtain ⟨x, j1, x0, x1, h1, e1⟩ := residue_jar h (by omega)
    obtain ⟨y, j2, y0, y1, h2, e2⟩ := residue_jar h1 (by omega)
    obtain ⟨n1, p1, p2, ex⟩ := mx_nat x0 x1
    obtain ⟨n2, p3, p4, ey⟩ := mx_nat y0 y1
    have t := told_right p1 p2 p3 p4
    rw [← ex, ← ey] at t
    obtain ⟨_, _, _, rfl, _⟩ := h
    obtain ⟨_, _, _, rfl, _⟩ := h1
    have h2' := h2
    obtain ⟨_, _, _, rfl, _⟩ := h2
    obtain ⟨j', i', u', v', hj, ih⟩ := lw_loop (ns := ns) ds (m + 3 + 3) _ d (.int (mx x)) (.int (mx y)) h2' (by omega)
    refine ⟨j', i', u', v', ?_, (forL_go rfl (o_law_body (gt := d_law_c4_told_right) (gr := d_law_yv_residue) e1 e2 t)).trans ih⟩
    have : m + 6 * (ds.length + 1) = m + 3 + 3 + 6 * ds.length := by omega
    rw [this]
    exact hj
def isOkT : Rt → Nat
  | .ok (.bl true) [] => 1
  | _ => 0
theorem ok_of {r : Rt} (h : isOkT r = 1) : r = .ok (.bl true) [] := by
  unfold isOkT at h
  split at h
  · rfl
  · cases h
theorem hand_ok : d_law_c4_hand_right [] = .ok (.bl true) [] := ok_of (by decide +kernel)
theorem o_law {ns : List Int} {a b c a1 b1 c1 a2 b2 c2 : Int} {i u v : D} {g1 g2 g3 g4 g5 : List D → Rt} (p : g4 [.scr ns] = .ok (.lst true [.int a, .int b, .int c]) [.scr ns])
    (e : forL (gN 2) (lwB g3 g5) (rgD 0 1 12) [.scr ns, .lst true [.int a, .int b, .int c], .un, .un, .un] = .nx [.scr ns, .lst true [.int a1, .int b1, .int c1], i, u, v])
    (t1 : g3 [.int 1, .int 2147483646] = .ok (.bl true) [.int 1, .int 2147483646]) (t2 : g3 [.int 2147483646, .int 2] = .ok (.bl true) [.int 2147483646, .int 2])
    (r : g2 [.lst true [.int a1, .int b1, .int c1]] = .ok (.bl true) [.lst true [.int a2, .int b2, .int c2]]) (hh : g1 [] = .ok (.bl true) []) : nk0 (fnD 1 5 fx_law (B_law g1 g2 g3 g4 g5)) [.scr ns] = .ok (.bl true) [.scr ns] := by
  have e1 : rgS1 (cst (.int 12)) [.scr ns, .lst true [.int a, .int b, .int c], .un, .un, .un] = .ok (rgD 0 1 12) [.scr ns, .lst true [.int a, .int b, .int c], .un, .un, .un] := rfl
  have e2 : B_law g1 g2 g3 g4 g5 [.scr ns, .un, .un, .un, .un] = .rt (.bl true) [.scr ns, .lst true [.int a2, .int b2, .int c2], i, u, v] := by
    show sq (sSet 1 (callD g4 (acons (nm 0) (anil)))) (sq (sFor (rgS1 (cst (.int 12))) (gN 2) (lwB g3 g5)) (sq (sIf (orT (notT (tst (callD g3 (acons (cst (.int 1)) (acons (cst (.int 2147483646)) (anil)))))) (notT (tst (callD g3 (acons (cst (.int 2147483646)) (acons (cst (.int 2)) (anil))))))) (sRet (cst (.bl false))) (sNil))
      (sRet (andV (callD g2 (acons (nm 1) (anil))) (callD g1 anil))))) [.scr ns, .un, .un, .un, .un] = _
    have e0 : sSet 1 (callD g4 (acons (nm 0) (anil))) [.scr ns, .un, .un, .un, .un] = .nx [.scr ns, .lst true [.int a, .int b, .int c], .un, .un, .un] := by simp [nk0, fnD, outD, sq, sRet, sIf, sNil, sExpr, sSet, sPar, sAsg, sSto, putAt, onE, onT, andV, orV, notV, andT, orT, notT, ifE, tst, Rz.bind, nm, vl, cst, bin, uno, chn, dsp, acons, anil, callD, okA, lendD, wbD, runL, mtD, appL, extL, popL, Hdl.get, valsOf, D.nks, D.nk, D.pl, D.pls, D.frz, D.frzs, nkU, isiD, isiB, iop, iopC, ltD, leD, gtD, geD, addD, subD, mulD, modD, fdivD, negD, modC, isND, notND, isNB, ixD, plO, gN, gT, gC, gNo, lamD, frzAll, cloOf, onlyD, p]
    conv => lhs; unfold sq
    rw [e0]
    dsimp only
    conv => lhs; unfold sq
    simp only [sFor, e1, e]
    simp [nk0, fnD, outD, sq, sRet, sIf, sNil, sExpr, sSet, sPar, sAsg, sSto, putAt, onE, onT, andV, orV, notV, andT, orT, notT, ifE, tst, Rz.bind, nm, vl, cst, bin, uno, chn, dsp, acons, anil, callD, okA, lendD, wbD, runL, mtD, appL, extL, popL, Hdl.get, valsOf, D.nks, D.nk, D.pl, D.pls, D.frz, D.frzs, nkU, isiD, isiB, iop, iopC, ltD, leD, gtD, geD, addD, subD, mulD, modD, fdivD, negD, modC, isND, notND, isNB, ixD, plO, gN, gT, gC, gNo, lamD, frzAll, cloOf, onlyD, t1, t2, r, hh]
  have o : ∀ b0 : SDen, b0 [.scr ns, .un, .un, .un, .un] = .rt (.bl true) [.scr ns, .lst true [.int a2, .int b2, .int c2], i, u, v] → nk0 (fnD 1 5 fx_law b0) [.scr ns] = .ok (.bl true) [.scr ns] := fun b0 h => by
    simp [nk0, fnD, outD, sq, sRet, sIf, sNil, sExpr, sSet, sPar, sAsg, sSto, putAt, onE, onT, andV, orV, notV, andT, orT, notT, ifE, tst, Rz.bind, nm, vl, cst, bin, uno, chn, dsp, acons, anil, callD, okA, lendD, wbD, runL, mtD, appL, extL, popL, Hdl.get, valsOf, D.nks, D.nk, D.pl, D.pls, D.frz, D.frzs, nkU, isiD, isiB, iop, iopC, ltD, leD, gtD, geD, addD, subD, mulD, modD, fdivD, negD, modC, isND, notND, isNB, ixD, plO, gN, gT, gC, gNo, lamD, frzAll, cloOf, onlyD, fx_law, h]
  exact o _ e2
theorem law_den (ns : List Int) (hl : ns.length ≤ 63) (_ : ∀ z ∈ ns, PySem.Builtin.Int.intBits z ≤ 1048576) : ∃ ps, d_law [.scr ns] = .ok (.bl true) ps := by
  obtain ⟨j, hj, e1⟩ := pool_ok hl
  obtain ⟨j1, i, u, v, h1, e2⟩ := lw_loop (ns := ns) (rgD 0 1 12) 0 j .un .un .un hj (by simp [rgD])
  obtain ⟨j2, h2, e3⟩ := refused_jar h1 (by simp [rgD])
  obtain ⟨_, _, _, rfl, _⟩ := hj
  obtain ⟨_, _, _, rfl, _⟩ := h1
  obtain ⟨_, _, _, rfl, _⟩ := h2
  exact ⟨_, o_law (g1 := d_law_c4_hand_right) (g2 := d_law_c4_refused_right) (g3 := d_law_c4_told_right) (g4 := d_law_pool) (g5 := d_law_yv_residue) e1 e2 (told_right (a := 1) (b := 2147483646) (by omega) (by omega) (by omega) (by omega)) (told_right (a := 2147483646) (b := 2) (by omega) (by omega) (by omega) (by omega)) e3 hand_ok⟩
end Law
end

section
set_option Elab.async false
set_option linter.all false
set_option maxRecDepth 100000
set_option maxHeartbeats 0
open PySem PySem.W PySem.Calls PyProof.Rows in
theorem PySem.Challenge.cw_liesborne_k04_inverses_holds : PySem.Challenge.rw_liesborne_k04_inverses.Holds := by
  w_on; o_law
  refine HandSHeadRun.head_any (r := OpenLaw.row PySem.Challenge.rw_liesborne_k04_inverses) (q := view (OpenLaw.row PySem.Challenge.rw_liesborne_k04_inverses).prog [36]) (H := Law.hk) (ob := Law.ob) (M := 4000) (loose := Law.loose) (d := HandSHeadRun.topDef (OpenLaw.row PySem.Challenge.rw_liesborne_k04_inverses).prog 36) (kwd := []) Law.ob_eq
    (by kernel_rfl) (fun s => by kernel_rfl) Law.run (by kernel_rfl) (by kernel_rfl) (by kernel_rfl) (by rfl) (by first | assumption | decide +kernel) (by decide +kernel) ⟨rfl, rfl, rfl, rfl, rfl, by decide +kernel⟩ ?hw ?hc
  case hw => w_witness2
  case hc =>
    refine LamX.walk_ofTsE (l := PySem.Challenge.rw_liesborne_k04_inverses) (n := 63) (k := 9) (x := "script") (CX := fun w => L2.CX PySem.Challenge.rw_liesborne_k04_inverses.prog w) rfl (by decide) (by kernel_rfl) ⟨rfl, by decide, by decide⟩ ?F (fun w H s e s' z => ?_)
    case F =>
      intro w mg fa h Y G hmg0
      have hmg : mg ("law" : PySem.Str) = some (.ref fa) := by
        have e : (HandSHeadRun.topDef (OpenLaw.row PySem.Challenge.rw_liesborne_k04_inverses).prog 36).name = ("law" : PySem.Str) := by kernel_rfl
        rw [← e]
        exact hmg0
      exact Law.law_atK Law.law_den w mg fa h Y G hmg
    obtain ⟨_, _, _, _, _, _, _, _, _, _, _, _, z⟩ := z
    exact z
end
