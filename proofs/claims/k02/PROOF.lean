import PyProof.Rows.All
import Wide.All
import OpenK.AllK
import Wide.FinOn
import HandS.ForMost
import HandS.ForExc
import HandS.Lambda
import HandS.EndTab
import HandS.ExcInit
import HandS.ExcField
import HandS.ExcCtx
import HandS.Wide
import HandS.Walk
import HandS.TupMul
import HandS.TupAny
import HandS.IsInst
import HandS.TupLe
import KE.GoesMore
import KE.KExcIs
import HandS.HeadHook4
import HandS.HeadWalk
import HandS.Head3
import HandS.NestedK
import HandS.HotCalls
import HandS.Style
import HandS.Conv
import HandS.Star
import HandS.Deep
import HandS.TryOnly
import PySem.Challenge.RW_liesborne_k02_polys_at_work

section
set_option Elab.async false
set_option linter.all false
set_option maxRecDepth 100000
set_option maxHeartbeats 4000000
/-! Y0: data trees, what they mean in the abstract heap, footprints, the state predicate. -/
namespace Y
open PySem PySem.Spec PyProof.Rows L2

/-- plain data; a list (a dict) tells whether it is owned (nothing else leads to it); un: a slot that nothing is known of; tok, tex: a closure by what a call of it gives -/
inductive D where
  | un | non | bl (b : Bool) | int (i : Int) | str (s : Str)
  | tup (ds : List D) | lst (o : Bool) (ds : List D) | dct (o : Bool) (ks : List Key) (ds : List D)
  | scr (ns : List Int)
  | tok (d : D) | tex (n : Str) (d : D)

/-- the surroundings of a running body: fx: slots that stay as they came in, σ0; FB: the frozen heap at the entry; G: closures -/
structure Ctx where
  K : PySem.W.Frag
  mg : Str → Option Value
  T : List (Addr × Str)
  G : Addr → Option D
  FB : Hp
  fx : Nat → Bool
  σ0 : L2.St
  CB : List (Addr × Str)

mutual
/-- d stands at v; A: the owned objects in it, in order -/
def Rel (c : Ctx) (F H : Hp) : D → V → List Addr → Prop
  | .un, _, _ => False
  | .non, v, A => v = .non ∧ A = []
  | .bl b, v, A => v = .bl b ∧ A = []
  | .int i, v, A => v = .int i ∧ A = []
  | .str s, v, A => v = .str s ∧ A = []
  | .tup ds, v, A => ∃ p vs, v = .ref p ∧ SqT c.K F p vs ∧ Rels c F H ds vs A
  | .lst true ds, v, A => ∃ p vs B, v = .ref p ∧ H p = some (.lst vs) ∧ F p = none ∧ A = p :: B ∧ Rels c F H ds vs B
  | .lst false ds, v, A => ∃ p vs, v = .ref p ∧ F p = some (.lst vs) ∧ A = [] ∧ Rels c F H ds vs []
  | .dct true ks ds, v, A => ∃ p vs B, v = .ref p ∧ H p = some (.dK (ks.zip vs)) ∧ ks.length = ds.length ∧ F p = none ∧ A = p :: B ∧ Rels c F H ds vs B
  | .dct false ks ds, v, A => ∃ p vs, v = .ref p ∧ F p = some (.dK (ks.zip vs)) ∧ ks.length = ds.length ∧ A = [] ∧ Rels c F H ds vs []
  | .scr ns, v, A => ∃ p, v = .ref p ∧ SqL c.K F p (ns.map V.int) ∧ A = []
  | .tok d, v, A => ∃ f, v = .ref f ∧ c.G f = some (.tok d) ∧ A = []
  | .tex n d, v, A => ∃ f, v = .ref f ∧ c.G f = some (.tex n d) ∧ A = []
def Rels (c : Ctx) (F H : Hp) : List D → List V → List Addr → Prop
  | [], vs, A => vs = [] ∧ A = []
  | d :: ds, vs, A => ∃ v ws B C, vs = v :: ws ∧ A = B ++ C ∧ Rel c F H d v B ∧ Rels c F H ds ws C
end

mutual
/-- nothing owned in it -/
def D.pl : D → Bool
  | .un => false
  | .tup ds => D.pls ds
  | .lst o ds => !o && D.pls ds
  | .dct o _ ds => !o && D.pls ds
  | _ => true
def D.pls : List D → Bool
  | [] => true
  | d :: ds => d.pl && D.pls ds
end
mutual
/-- the same, owned by nobody any more -/
def D.frz : D → D
  | .tup ds => .tup (D.frzs ds)
  | .lst _ ds => .lst false (D.frzs ds)
  | .dct _ ks ds => .dct false ks (D.frzs ds)
  | d => d
def D.frzs : List D → List D
  | [] => []
  | d :: ds => d.frz :: D.frzs ds
end
mutual
/-- no closure in it -/
def D.nk : D → Bool
  | .un => false
  | .tup ds => D.nks ds
  | .lst _ ds => D.nks ds
  | .dct _ _ ds => D.nks ds
  | .tok _ => false
  | .tex _ _ => false
  | _ => true
def D.nks : List D → Bool
  | [] => true
  | d :: ds => d.nk && D.nks ds
end

theorem frzs_map : ∀ ds : List D, D.frzs ds = ds.map D.frz
  | [] => rfl
  | d :: ds => by rw [D.frzs, frzs_map ds]; rfl
theorem pls_all : ∀ ds : List D, D.pls ds = ds.all D.pl
  | [] => rfl
  | d :: ds => by rw [D.pls, pls_all ds]; rfl
theorem nks_all : ∀ ds : List D, D.nks ds = ds.all D.nk
  | [] => rfl
  | d :: ds => by rw [D.nks, nks_all ds]; rfl

section
variable {c : Ctx} {F H F' H' : Hp}

/-! ### lists -/
theorem Rels.length : ∀ {ds : List D} {vs : List V} {A : List Addr}, Rels c F H ds vs A → vs.length = ds.length
  | [], vs, A, h => by obtain ⟨rfl, _⟩ := h; rfl
  | d :: ds, vs, A, h => by
    obtain ⟨v, ws, B, C, rfl, _, _, r⟩ := h
    simp [Rels.length r]
theorem Rels.nil : Rels c F H [] [] [] := ⟨rfl, rfl⟩
theorem Rels.cons {d : D} {ds : List D} {v : V} {vs : List V} {A B : List Addr} (h : Rel c F H d v A) (r : Rels c F H ds vs B) : Rels c F H (d :: ds) (v :: vs) (A ++ B) := ⟨v, vs, A, B, rfl, rfl, h, r⟩
theorem Rels.append : ∀ {ds es : List D} {vs ws : List V} {A B : List Addr}, Rels c F H ds vs A → Rels c F H es ws B → Rels c F H (ds ++ es) (vs ++ ws) (A ++ B)
  | [], es, vs, ws, A, B, h, r => by obtain ⟨rfl, rfl⟩ := h; exact r
  | d :: ds, es, vs, ws, A, B, h, r => by
    obtain ⟨v, us, C, E, rfl, rfl, h1, h2⟩ := h
    exact ⟨v, us ++ ws, C, E ++ B, rfl, by simp, h1, Rels.append h2 r⟩
theorem Rels.split : ∀ {ds es : List D} {vs : List V} {A : List Addr}, Rels c F H (ds ++ es) vs A → ∃ ws us B C, vs = ws ++ us ∧ A = B ++ C ∧ Rels c F H ds ws B ∧ Rels c F H es us C
  | [], es, vs, A, h => ⟨[], vs, [], A, rfl, rfl, Rels.nil, h⟩
  | d :: ds, es, vs, A, h => by
    obtain ⟨v, us, B, C, rfl, rfl, h1, h2⟩ := h
    obtain ⟨w1, w2, B1, B2, rfl, rfl, h3, h4⟩ := Rels.split (ds := ds) h2
    exact ⟨v :: w1, w2, B ++ B1, B2, rfl, by simp, Rels.cons h1 h3, h4⟩

mutual
theorem Rel.owned : ∀ {d : D} {v : V} {A : List Addr}, Rel c F H d v A → ∀ b ∈ A, F b = none ∧ ∃ o, H b = some o ∧ ∀ ps, o ≠ .tbl ps
  | .un, v, A, h => h.elim
  | .non, v, A, h => by obtain ⟨_, rfl⟩ := h; intro b z; cases z
  | .bl _, v, A, h => by obtain ⟨_, rfl⟩ := h; intro b z; cases z
  | .int _, v, A, h => by obtain ⟨_, rfl⟩ := h; intro b z; cases z
  | .str _, v, A, h => by obtain ⟨_, rfl⟩ := h; intro b z; cases z
  | .tup ds, v, A, h => by obtain ⟨p, vs, _, _, r⟩ := h; exact Rels.owned r
  | .lst true ds, v, A, h => by
    obtain ⟨p, vs, B, _, h1, h2, rfl, r⟩ := h
    intro b z
    rcases List.mem_cons.mp z with rfl | z
    · exact ⟨h2, _, h1, fun ps q => by cases q⟩
    · exact Rels.owned r b z
  | .lst false ds, v, A, h => by obtain ⟨p, vs, _, _, rfl, _⟩ := h; intro b z; cases z
  | .dct true ks ds, v, A, h => by
    obtain ⟨p, vs, B, _, h1, _, h2, rfl, r⟩ := h
    intro b z
    rcases List.mem_cons.mp z with rfl | z
    · exact ⟨h2, _, h1, fun ps q => by cases q⟩
    · exact Rels.owned r b z
  | .dct false ks ds, v, A, h => by obtain ⟨p, vs, _, _, _, rfl, _⟩ := h; intro b z; cases z
  | .scr _, v, A, h => by obtain ⟨p, _, _, rfl⟩ := h; intro b z; cases z
  | .tok _, v, A, h => by obtain ⟨p, _, _, rfl⟩ := h; intro b z; cases z
  | .tex _ _, v, A, h => by obtain ⟨p, _, _, rfl⟩ := h; intro b z; cases z
theorem Rels.owned : ∀ {ds : List D} {vs : List V} {A : List Addr}, Rels c F H ds vs A → ∀ b ∈ A, F b = none ∧ ∃ o, H b = some o ∧ ∀ ps, o ≠ .tbl ps
  | [], vs, A, h => by obtain ⟨_, rfl⟩ := h; intro b z; cases z
  | d :: ds, vs, A, h => by
    obtain ⟨v, us, B, C, _, rfl, h1, h2⟩ := h
    intro b z
    rcases List.mem_append.mp z with z | z
    · exact Rel.owned h1 b z
    · exact Rels.owned h2 b z
end
mutual
theorem Rel.noExt : ∀ {d : D} {v : V} {A : List Addr}, Rel c F H d v A → ∀ b ∈ A, ∀ φ, H b ≠ some (.ext φ)
  | .un, v, A, h => h.elim
  | .non, v, A, h => by obtain ⟨_, rfl⟩ := h; intro b z; cases z
  | .bl _, v, A, h => by obtain ⟨_, rfl⟩ := h; intro b z; cases z
  | .int _, v, A, h => by obtain ⟨_, rfl⟩ := h; intro b z; cases z
  | .str _, v, A, h => by obtain ⟨_, rfl⟩ := h; intro b z; cases z
  | .tup ds, v, A, h => by obtain ⟨p, vs, _, _, r⟩ := h; exact Rels.noExt r
  | .lst true ds, v, A, h => by
    obtain ⟨p, vs, B, _, h1, h2, rfl, r⟩ := h
    intro b z φ e
    rcases List.mem_cons.mp z with rfl | z
    · rw [h1] at e; cases e
    · exact Rels.noExt r b z φ e
  | .lst false ds, v, A, h => by obtain ⟨p, vs, _, _, rfl, _⟩ := h; intro b z; cases z
  | .dct true ks ds, v, A, h => by
    obtain ⟨p, vs, B, _, h1, _, h2, rfl, r⟩ := h
    intro b z φ e
    rcases List.mem_cons.mp z with rfl | z
    · rw [h1] at e; cases e
    · exact Rels.noExt r b z φ e
  | .dct false ks ds, v, A, h => by obtain ⟨p, vs, _, _, _, rfl, _⟩ := h; intro b z; cases z
  | .scr _, v, A, h => by obtain ⟨p, _, _, rfl⟩ := h; intro b z; cases z
  | .tok _, v, A, h => by obtain ⟨p, _, _, rfl⟩ := h; intro b z; cases z
  | .tex _ _, v, A, h => by obtain ⟨p, _, _, rfl⟩ := h; intro b z; cases z
theorem Rels.noExt : ∀ {ds : List D} {vs : List V} {A : List Addr}, Rels c F H ds vs A → ∀ b ∈ A, ∀ φ, H b ≠ some (.ext φ)
  | [], vs, A, h => by obtain ⟨_, rfl⟩ := h; intro b z; cases z
  | d :: ds, vs, A, h => by
    obtain ⟨v, us, B, C, _, rfl, h1, h2⟩ := h
    intro b z
    rcases List.mem_append.mp z with z | z
    · exact Rel.noExt h1 b z
    · exact Rels.noExt h2 b z
end
theorem sqT_mono {K : PySem.W.Frag} {a : Addr} {xs : List V} (e : ∀ b o, F b = some o → F' b = some o) (h : SqT K F a xs) : SqT K F' a xs := by
  rcases h with (h | ⟨o, h⟩) | h
  · exact .inl (.inl (e _ _ h))
  · exact .inl (.inr ⟨o, e _ _ h⟩)
  · exact .inr h
theorem sqL_mono {K : PySem.W.Frag} {a : Addr} {xs : List V} (e : ∀ b o, F b = some o → F' b = some o) (h : SqL K F a xs) : SqL K F' a xs := by
  rcases h with (h | ⟨o, h⟩) | h
  · exact .inl (.inl (e _ _ h))
  · exact .inl (.inr ⟨o, e _ _ h⟩)
  · exact .inr h
mutual
theorem Rel.mono (e : ∀ b o, F b = some o → F' b = some o) : ∀ {d : D} {v : V} {A : List Addr}, Rel c F H d v A → (∀ b ∈ A, H' b = H b ∧ F' b = none) → Rel c F' H' d v A
  | .un, v, A, h, k => h.elim
  | .non, v, A, h, k => h
  | .bl _, v, A, h, k => h
  | .int _, v, A, h, k => h
  | .str _, v, A, h, k => h
  | .tup ds, v, A, h, k => by
    obtain ⟨p, vs, h1, h2, r⟩ := h
    exact ⟨p, vs, h1, sqT_mono e h2, Rels.mono e r k⟩
  | .lst true ds, v, A, h, k => by
    obtain ⟨p, vs, B, h0, h1, h2, rfl, r⟩ := h
    have z := k p List.mem_cons_self
    exact ⟨p, vs, B, h0, z.1.trans h1, z.2, rfl, Rels.mono e r fun b hb => k b (List.mem_cons_of_mem _ hb)⟩
  | .lst false ds, v, A, h, k => by
    obtain ⟨p, vs, h0, h1, rfl, r⟩ := h
    exact ⟨p, vs, h0, e _ _ h1, rfl, Rels.mono e r fun b hb => by cases hb⟩
  | .dct true ks ds, v, A, h, k => by
    obtain ⟨p, vs, B, h0, h1, h3, h2, rfl, r⟩ := h
    have z := k p List.mem_cons_self
    exact ⟨p, vs, B, h0, z.1.trans h1, h3, z.2, rfl, Rels.mono e r fun b hb => k b (List.mem_cons_of_mem _ hb)⟩
  | .dct false ks ds, v, A, h, k => by
    obtain ⟨p, vs, h0, h1, h3, rfl, r⟩ := h
    exact ⟨p, vs, h0, e _ _ h1, h3, rfl, Rels.mono e r fun b hb => by cases hb⟩
  | .scr _, v, A, h, k => by
    obtain ⟨p, h0, h1, h2⟩ := h
    exact ⟨p, h0, sqL_mono e h1, h2⟩
  | .tok _, v, A, h, k => h
  | .tex _ _, v, A, h, k => h
theorem Rels.mono (e : ∀ b o, F b = some o → F' b = some o) : ∀ {ds : List D} {vs : List V} {A : List Addr}, Rels c F H ds vs A → (∀ b ∈ A, H' b = H b ∧ F' b = none) → Rels c F' H' ds vs A
  | [], vs, A, h, k => h
  | d :: ds, vs, A, h, k => by
    obtain ⟨v, us, B, C, h0, rfl, h1, h2⟩ := h
    exact ⟨v, us, B, C, h0, rfl, Rel.mono e h1 fun b hb => k b (List.mem_append_left _ hb), Rels.mono e h2 fun b hb => k b (List.mem_append_right _ hb)⟩
end
mutual
theorem Rel.froze (e : ∀ b o, F b = some o → F' b = some o) : ∀ {d : D} {v : V} {A : List Addr}, Rel c F H d v A → (∀ b ∈ A, F' b = H b) → Rel c F' H' d.frz v []
  | .un, v, A, h, k => h.elim
  | .non, v, A, h, k => ⟨h.1, rfl⟩
  | .bl _, v, A, h, k => ⟨h.1, rfl⟩
  | .int _, v, A, h, k => ⟨h.1, rfl⟩
  | .str _, v, A, h, k => ⟨h.1, rfl⟩
  | .tup ds, v, A, h, k => by
    obtain ⟨p, vs, h1, h2, r⟩ := h
    exact ⟨p, vs, h1, sqT_mono e h2, Rels.froze e r k⟩
  | .lst true ds, v, A, h, k => by
    obtain ⟨p, vs, B, h0, h1, h2, rfl, r⟩ := h
    exact ⟨p, vs, h0, (k p List.mem_cons_self).trans h1, rfl, Rels.froze e r fun b hb => k b (List.mem_cons_of_mem _ hb)⟩
  | .lst false ds, v, A, h, k => by
    obtain ⟨p, vs, h0, h1, rfl, r⟩ := h
    exact ⟨p, vs, h0, e _ _ h1, rfl, Rels.froze e r fun b hb => by cases hb⟩
  | .dct true ks ds, v, A, h, k => by
    obtain ⟨p, vs, B, h0, h1, h3, h2, rfl, r⟩ := h
    exact ⟨p, vs, h0, (k p List.mem_cons_self).trans h1, by rw [frzs_map, List.length_map]; exact h3, rfl, Rels.froze e r fun b hb => k b (List.mem_cons_of_mem _ hb)⟩
  | .dct false ks ds, v, A, h, k => by
    obtain ⟨p, vs, h0, h1, h3, rfl, r⟩ := h
    exact ⟨p, vs, h0, e _ _ h1, by rw [frzs_map, List.length_map]; exact h3, rfl, Rels.froze e r fun b hb => by cases hb⟩
  | .scr _, v, A, h, k => by
    obtain ⟨p, h0, h1, h2⟩ := h
    exact ⟨p, h0, sqL_mono e h1, rfl⟩
  | .tok _, v, A, h, k => by obtain ⟨f, h0, h1, _⟩ := h; exact ⟨f, h0, h1, rfl⟩
  | .tex _ _, v, A, h, k => by obtain ⟨f, h0, h1, _⟩ := h; exact ⟨f, h0, h1, rfl⟩
theorem Rels.froze (e : ∀ b o, F b = some o → F' b = some o) : ∀ {ds : List D} {vs : List V} {A : List Addr}, Rels c F H ds vs A → (∀ b ∈ A, F' b = H b) → Rels c F' H' (D.frzs ds) vs []
  | [], vs, A, h, k => ⟨h.1, rfl⟩
  | d :: ds, vs, A, h, k => by
    obtain ⟨v, us, B, C, h0, rfl, h1, h2⟩ := h
    exact ⟨v, us, [], [], h0, rfl, Rel.froze e h1 fun b hb => k b (List.mem_append_left _ hb), Rels.froze e h2 fun b hb => k b (List.mem_append_right _ hb)⟩
end
mutual
theorem Rel.pl_nil : ∀ {d : D} {v : V} {A : List Addr}, Rel c F H d v A → d.pl = true → A = []
  | .un, v, A, h, k => h.elim
  | .non, v, A, h, k => h.2
  | .bl _, v, A, h, k => h.2
  | .int _, v, A, h, k => h.2
  | .str _, v, A, h, k => h.2
  | .tup ds, v, A, h, k => by
    obtain ⟨p, vs, h1, h2, r⟩ := h
    exact Rels.pl_nil r k
  | .lst true ds, v, A, h, k => by
    rw [D.pl] at k
    cases k
  | .lst false ds, v, A, h, k => by
    obtain ⟨p, vs, h0, h1, h2, r⟩ := h
    exact h2
  | .dct true ks ds, v, A, h, k => by
    rw [D.pl] at k
    cases k
  | .dct false ks ds, v, A, h, k => by
    obtain ⟨p, vs, h0, h1, h3, h2, r⟩ := h
    exact h2
  | .scr _, v, A, h, k => by obtain ⟨p, h0, h1, h2⟩ := h; exact h2
  | .tok _, v, A, h, k => by obtain ⟨p, h0, h1, h2⟩ := h; exact h2
  | .tex _ _, v, A, h, k => by obtain ⟨p, h0, h1, h2⟩ := h; exact h2
theorem Rels.pl_nil : ∀ {ds : List D} {vs : List V} {A : List Addr}, Rels c F H ds vs A → D.pls ds = true → A = []
  | [], vs, A, h, k => h.2
  | d :: ds, vs, A, h, k => by
    obtain ⟨v, us, B, C, h0, rfl, h1, h2⟩ := h
    rw [D.pls, Bool.and_eq_true] at k
    rw [Rel.pl_nil h1 k.1, Rels.pl_nil h2 k.2]
    rfl
end
mutual
theorem Rel.ctx {c' : Ctx} (hK : c'.K = c.K) : ∀ {d : D} {v : V} {A : List Addr}, Rel c F H d v A → d.nk = true → Rel c' F H d v A
  | .un, v, A, h, k => h.elim
  | .non, v, A, h, k => h
  | .bl _, v, A, h, k => h
  | .int _, v, A, h, k => h
  | .str _, v, A, h, k => h
  | .tup ds, v, A, h, k => by
    obtain ⟨p, vs, h1, h2, r⟩ := h
    exact ⟨p, vs, h1, by rw [hK]; exact h2, Rels.ctx hK r k⟩
  | .lst true ds, v, A, h, k => by
    obtain ⟨p, vs, B, h0, h1, h2, h3, r⟩ := h
    exact ⟨p, vs, B, h0, h1, h2, h3, Rels.ctx hK r k⟩
  | .lst false ds, v, A, h, k => by
    obtain ⟨p, vs, h0, h1, h2, r⟩ := h
    exact ⟨p, vs, h0, h1, h2, Rels.ctx hK r k⟩
  | .dct true ks ds, v, A, h, k => by
    obtain ⟨p, vs, B, h0, h1, h3, h2, h4, r⟩ := h
    exact ⟨p, vs, B, h0, h1, h3, h2, h4, Rels.ctx hK r k⟩
  | .dct false ks ds, v, A, h, k => by
    obtain ⟨p, vs, h0, h1, h3, h2, r⟩ := h
    exact ⟨p, vs, h0, h1, h3, h2, Rels.ctx hK r k⟩
  | .scr _, v, A, h, k => by obtain ⟨p, h0, h1, h2⟩ := h; exact ⟨p, h0, by rw [hK]; exact h1, h2⟩
  | .tok _, v, A, h, k => by rw [D.nk] at k; cases k
  | .tex _ _, v, A, h, k => by rw [D.nk] at k; cases k
theorem Rels.ctx {c' : Ctx} (hK : c'.K = c.K) : ∀ {ds : List D} {vs : List V} {A : List Addr}, Rels c F H ds vs A → D.nks ds = true → Rels c' F H ds vs A
  | [], vs, A, h, k => h
  | d :: ds, vs, A, h, k => by
    obtain ⟨v, us, B, C, h0, h3, h1, h2⟩ := h
    rw [D.nks, Bool.and_eq_true] at k
    exact ⟨v, us, B, C, h0, h3, Rel.ctx hK h1 k.1, Rels.ctx hK h2 k.2⟩
end
mutual
theorem Rel.ctxG {c' : Ctx} (hK : c'.K = c.K) (hG : c'.G = c.G) : ∀ {d : D} {v : V} {A : List Addr}, Rel c F H d v A → Rel c' F H d v A
  | .un, v, A, h => h.elim
  | .non, v, A, h => h
  | .bl _, v, A, h => h
  | .int _, v, A, h => h
  | .str _, v, A, h => h
  | .tup ds, v, A, h => by
    obtain ⟨p, vs, h1, h2, r⟩ := h
    exact ⟨p, vs, h1, by rw [hK]; exact h2, Rels.ctxG hK hG r⟩
  | .lst true ds, v, A, h => by
    obtain ⟨p, vs, B, h0, h1, h2, h3, r⟩ := h
    exact ⟨p, vs, B, h0, h1, h2, h3, Rels.ctxG hK hG r⟩
  | .lst false ds, v, A, h => by
    obtain ⟨p, vs, h0, h1, h2, r⟩ := h
    exact ⟨p, vs, h0, h1, h2, Rels.ctxG hK hG r⟩
  | .dct true ks ds, v, A, h => by
    obtain ⟨p, vs, B, h0, h1, h3, h2, h4, r⟩ := h
    exact ⟨p, vs, B, h0, h1, h3, h2, h4, Rels.ctxG hK hG r⟩
  | .dct false ks ds, v, A, h => by
    obtain ⟨p, vs, h0, h1, h3, h2, r⟩ := h
    exact ⟨p, vs, h0, h1, h3, h2, Rels.ctxG hK hG r⟩
  | .scr _, v, A, h => by obtain ⟨p, h0, h1, h2⟩ := h; exact ⟨p, h0, by rw [hK]; exact h1, h2⟩
  | .tok _, v, A, h => by obtain ⟨f, h0, h1, h2⟩ := h; exact ⟨f, h0, by rw [hG]; exact h1, h2⟩
  | .tex _ _, v, A, h => by obtain ⟨f, h0, h1, h2⟩ := h; exact ⟨f, h0, by rw [hG]; exact h1, h2⟩
theorem Rels.ctxG {c' : Ctx} (hK : c'.K = c.K) (hG : c'.G = c.G) : ∀ {ds : List D} {vs : List V} {A : List Addr}, Rels c F H ds vs A → Rels c' F H ds vs A
  | [], vs, A, h => h
  | d :: ds, vs, A, h => by
    obtain ⟨v, us, B, C, h0, h3, h1, h2⟩ := h
    exact ⟨v, us, B, C, h0, h3, Rel.ctxG hK hG h1, Rels.ctxG hK hG h2⟩
end
/-- plain data stay whatever H does -/
theorem Rel.any {d : D} {v : V} {A : List Addr} (h : Rel c F H d v A) (k : d.pl = true) (e : ∀ b o, F b = some o → F' b = some o) : Rel c F' H' d v [] := by
  have z := h.pl_nil k
  subst z
  exact Rel.mono e h fun b hb => by cases hb
theorem Rels.any {ds : List D} {vs : List V} {A : List Addr} (h : Rels c F H ds vs A) (k : D.pls ds = true) (e : ∀ b o, F b = some o → F' b = some o) : Rels c F' H' ds vs [] := by
  have z := h.pl_nil k
  subst z
  exact Rels.mono e h fun b hb => by cases hb

/-! ### what a step may do -/
/-- nothing stands there (a table of code objects at most) -/
def NT (H : Hp) (b : Addr) : Prop := ∀ o, H b = some o → ∃ ps, o = .tbl ps
theorem NT.of {H : Hp} {b : Addr} (h : H b = none) : NT H b := fun o e => by
  rw [h] at e
  cases e
structure Go (F H : Hp) (S : List Addr) (F' H' : Hp) (S' : List Addr) : Prop where
  f : ∀ b o, F b = some o → F' b = some o
  h : ∀ b o, H b = some o → (∀ ps, o ≠ .tbl ps) → b ∉ S → H' b = some o
  s : ∀ b ∈ S', b ∈ S ∨ NT H b
  n : ∀ b o, F' b = some o → F b = some o ∨ b ∈ S ∨ NT H b
theorem Go.refl {S : List Addr} : Go F H S F H S := ⟨fun _ _ h => h, fun _ _ h _ _ => h, fun _ h => .inl h, fun _ _ h => .inl h⟩
section
variable {F1 H1 F2 H2 : Hp} {S S1 S2 A B : List Addr}
theorem Go.fresh (a : Go F H S F1 H1 B) {x : Addr} (n : NT H1 x) : x ∈ S ∨ NT H x := by
  by_cases hx : x ∈ S
  · exact .inl hx
  · refine .inr fun o e => ?_
    by_cases ht : ∃ ps, o = .tbl ps
    · exact ht
    · exact n o (a.h x o e (fun ps z => ht ⟨ps, z⟩) hx)
/-- a step, then a step of what is left beside some things in hand -/
theorem Go.trans (a : Go F H S F1 H1 (A ++ S1)) (b : Go F1 H1 S1 F2 H2 B) : Go F H S F2 H2 (A ++ B) := by
  have no : ∀ x o, H x = some o → (∀ ps, o ≠ .tbl ps) → x ∉ S → x ∉ S1 := fun x o h ht hx z => by
    rcases a.s x (List.mem_append_right _ z) with z | z
    · exact hx z
    · obtain ⟨ps, e⟩ := z o h
      exact ht ps e
  refine ⟨fun x o h => b.f x o (a.f x o h), fun x o h ht hx => b.h x o (a.h x o h ht hx) ht (no x o h ht hx), fun x hx => ?_, fun x o h => ?_⟩
  · rcases List.mem_append.mp hx with hx | hx
    · exact a.s x (List.mem_append_left _ hx)
    · rcases b.s x hx with z | z
      · exact a.s x (List.mem_append_right _ z)
      · exact a.fresh z
  · rcases b.n x o h with z | z | z
    · exact a.n x o z
    · exact .inr (a.s x (List.mem_append_right _ z))
    · exact .inr (a.fresh z)
theorem Go.trans0 (a : Go F H S F1 H1 S1) (b : Go F1 H1 S1 F2 H2 B) : Go F H S F2 H2 B := Go.trans (A := []) a b
/-- fewer things are claimed behind it -/
theorem Go.less (a : Go F H S F1 H1 A) (h : ∀ b ∈ B, b ∈ A) : Go F H S F1 H1 B := ⟨a.f, a.h, fun b hb => a.s b (h b hb), a.n⟩
/-- what is in hand stays while the rest goes on -/
theorem Go.hand (b : Go F1 H1 S1 F2 H2 B) (own : ∀ x ∈ A, F1 x = none ∧ ∃ o, H1 x = some o ∧ ∀ ps, o ≠ .tbl ps) (nd : (A ++ S1).Nodup) : ∀ x ∈ A, H2 x = H1 x ∧ F2 x = none ∧ x ∉ B := by
  intro x hx
  obtain ⟨h1, o, h2, h3⟩ := own x hx
  have ns : x ∉ S1 := fun z => (List.nodup_append.mp nd).2.2 x hx x z rfl
  have nn : ¬ NT H1 x := fun z => by
    obtain ⟨ps, e⟩ := z o h2
    exact h3 ps e
  refine ⟨(b.h x o h2 h3 ns).trans h2.symm, ?_, fun z => (b.s x z).elim ns nn⟩
  cases e : F2 x with
  | none => rfl
  | some u =>
    rcases b.n x u e with z | z | z
    · rw [h1] at z
      cases z
    · exact absurd z ns
    · exact absurd z nn
theorem Rel.hand {d : D} {v : V} (r : Rel c F1 H1 d v A) (b : Go F1 H1 S1 F2 H2 B) (nd : (A ++ S1).Nodup) : Rel c F2 H2 d v A :=
  Rel.mono b.f r fun x hx => let ⟨h1, h2, _⟩ := b.hand r.owned nd x hx; ⟨h1, h2⟩
theorem Rels.hand {ds : List D} {vs : List V} (r : Rels c F1 H1 ds vs A) (b : Go F1 H1 S1 F2 H2 B) (nd : (A ++ S1).Nodup) : Rels c F2 H2 ds vs A :=
  Rels.mono b.f r fun x hx => let ⟨h1, h2, _⟩ := b.hand r.owned nd x hx; ⟨h1, h2⟩
theorem nodup_hand (b : Go F1 H1 S1 F2 H2 B) (own : ∀ x ∈ A, F1 x = none ∧ ∃ o, H1 x = some o ∧ ∀ ps, o ≠ .tbl ps) (nd : (A ++ S1).Nodup) (nb : B.Nodup) : (A ++ B).Nodup :=
  List.nodup_append.mpr ⟨(List.nodup_append.mp nd).1, nb, fun x hx y hy z => by subst z; exact (b.hand own nd x hx).2.2 hy⟩
end

/-! ### the slots -/
def SlotR (c : Ctx) (F H : Hp) (x : Option V) : D → List Addr → Prop
  | .un, A => A = []
  | d, A => ∃ v, x = some v ∧ Rel c F H d v A
def Slots (c : Ctx) (F H : Hp) : L2.St → List D → List Addr → Prop
  | [], [], S => S = []
  | x :: σ, d :: τ, S => ∃ A B, S = A ++ B ∧ SlotR c F H x d A ∧ Slots c F H σ τ B
  | _, _, _ => False
/-- the tables of code objects, the code objects that closures lean on -/
structure Tb (c : Ctx) (H : Hp) : Prop where
  tabs : LamX.Tabs c.T H
  code : ∀ p ∈ c.CB, H p.1 = some (LamX.CodeO p.1 p.2)
theorem Tb.ext {c : Ctx} {H H' : Hp} (t : Tb c H) (e : ∀ b o, H b = some o → H' b = some o) : Tb c H' := ⟨t.tabs.ext e, fun p hp => e _ _ (t.code p hp)⟩
structure SA (c : Ctx) (F H : Hp) (σ : L2.St) (τ : List D) (S : List Addr) : Prop where
  ex : ∀ b o, F b = some o → H b = some o
  nt : ∀ b ps, F b ≠ some (.tbl ps)
  fb : ∀ b o, c.FB b = some o → F b = some o
  tb : Tb c H
  sl : Slots c F H σ τ S
  nd : S.Nodup
  fx : ∀ i, c.fx i = true → σ[i]? = c.σ0[i]?

theorem slotR_un {x : Option V} {A : List Addr} (h : SlotR c F H x .un A) : A = [] := h
theorem slotR_of {x : Option V} {d : D} {A : List Addr} (h : SlotR c F H x d A) : (d = .un ∧ A = []) ∨ ∃ v, x = some v ∧ Rel c F H d v A := by
  cases d with
  | un => exact .inl ⟨rfl, h⟩
  | _ => exact .inr h
theorem slotR_mk {d : D} {v : V} {A : List Addr} (h : Rel c F H d v A) : SlotR c F H (some v) d A := by
  cases d with
  | un => exact h.elim
  | _ => exact ⟨v, rfl, h⟩
theorem SlotR.owned {x : Option V} {d : D} {A : List Addr} (h : SlotR c F H x d A) : ∀ b ∈ A, F b = none ∧ ∃ o, H b = some o ∧ ∀ ps, o ≠ .tbl ps := by
  rcases slotR_of h with ⟨_, rfl⟩ | ⟨v, _, r⟩
  · intro b z
    cases z
  · exact r.owned
theorem SlotR.mono (e : ∀ b o, F b = some o → F' b = some o) {x : Option V} {d : D} {A : List Addr} (h : SlotR c F H x d A) (k : ∀ b ∈ A, H' b = H b ∧ F' b = none) : SlotR c F' H' x d A := by
  rcases slotR_of h with ⟨rfl, rfl⟩ | ⟨v, rfl, r⟩
  · rfl
  · exact slotR_mk (Rel.mono e r k)
theorem Slots.length : ∀ {σ : L2.St} {τ : List D} {S : List Addr}, Slots c F H σ τ S → σ.length = τ.length
  | [], [], S, h => rfl
  | x :: σ, d :: τ, S, h => by
    obtain ⟨A, B, _, _, r⟩ := h
    simp [Slots.length r]
theorem Slots.owned : ∀ {σ : L2.St} {τ : List D} {S : List Addr}, Slots c F H σ τ S → ∀ b ∈ S, F b = none ∧ ∃ o, H b = some o ∧ ∀ ps, o ≠ .tbl ps
  | [], [], S, h => by
    have z : S = [] := h
    subst z
    intro b z
    cases z
  | x :: σ, d :: τ, S, h => by
    obtain ⟨A, B, rfl, r, h⟩ := h
    intro b z
    rcases List.mem_append.mp z with z | z
    · exact r.owned b z
    · exact Slots.owned h b z
theorem Slots.noExt : ∀ {σ : L2.St} {τ : List D} {S : List Addr}, Slots c F H σ τ S → ∀ b ∈ S, ∀ φ, H b ≠ some (.ext φ)
  | [], [], S, h => by
    have z : S = [] := h
    subst z
    intro b z
    cases z
  | x :: σ, d :: τ, S, h => by
    obtain ⟨A, B, rfl, r, h⟩ := h
    intro b z
    rcases List.mem_append.mp z with z | z
    · rcases slotR_of r with ⟨_, rfl⟩ | ⟨v, _, r⟩
      · cases z
      · exact r.noExt b z
    · exact Slots.noExt h b z
theorem Slots.mono (e : ∀ b o, F b = some o → F' b = some o) : ∀ {σ : L2.St} {τ : List D} {S : List Addr}, Slots c F H σ τ S → (∀ b ∈ S, H' b = H b ∧ F' b = none) → Slots c F' H' σ τ S
  | [], [], S, h, k => h
  | x :: σ, d :: τ, S, h, k => by
    obtain ⟨A, B, rfl, r, h⟩ := h
    exact ⟨A, B, rfl, r.mono e fun b hb => k b (List.mem_append_left _ hb), Slots.mono e h fun b hb => k b (List.mem_append_right _ hb)⟩
theorem SlotR.ctxG {c' : Ctx} (hK : c'.K = c.K) (hG : c'.G = c.G) {x : Option V} {d : D} {A : List Addr} (h : SlotR c F H x d A) : SlotR c' F H x d A := by
  rcases slotR_of h with ⟨rfl, rfl⟩ | ⟨v, rfl, r⟩
  · rfl
  · exact slotR_mk (Rel.ctxG hK hG r)
theorem Slots.ctxG {c' : Ctx} (hK : c'.K = c.K) (hG : c'.G = c.G) : ∀ {σ : L2.St} {τ : List D} {S : List Addr}, Slots c F H σ τ S → Slots c' F H σ τ S
  | [], [], S, h => h
  | x :: σ, d :: τ, S, h => by
    obtain ⟨A, B, rfl, r, h⟩ := h
    exact ⟨A, B, rfl, r.ctxG hK hG, Slots.ctxG hK hG h⟩
/-- one slot apart -/
theorem Slots.at : ∀ {σ : L2.St} {τ : List D} {S : List Addr} {i : Nat} {d : D}, Slots c F H σ τ S → τ[i]? = some d →
    ∃ x A B1 B2, σ[i]? = some x ∧ S = B1 ++ (A ++ B2) ∧ SlotR c F H x d A ∧
      ∀ (F' H' : Hp) (x' : Option V) (d' : D) (A' : List Addr), (∀ b o, F b = some o → F' b = some o) → (∀ b ∈ B1 ++ B2, H' b = H b ∧ F' b = none) → SlotR c F' H' x' d' A' → Slots c F' H' (σ.set i x') (τ.set i d') (B1 ++ (A' ++ B2))
  | [], [], S, i, d, h, e => by simp at e
  | x :: σ, d0 :: τ, S, 0, d, h, e => by
    obtain ⟨A, B, rfl, r, h⟩ := h
    have e' : d0 = d := by simpa using e
    subst e'
    exact ⟨x, A, [], B, rfl, rfl, r, fun F' H' x' d' A' m k r' => ⟨A', B, rfl, r', Slots.mono m h k⟩⟩
  | x :: σ, d0 :: τ, S, i + 1, d, h, e => by
    obtain ⟨A, B, rfl, r, h⟩ := h
    obtain ⟨y, A1, B1, B2, e1, rfl, r1, k1⟩ := Slots.at (i := i) (d := d) h (by simpa using e)
    refine ⟨y, A1, A ++ B1, B2, by simpa using e1, by simp, r1, fun F' H' x' d' A' m k r' => ⟨A, B1 ++ (A' ++ B2), by simp, r.mono m fun b hb => k b (by simp [hb]), k1 F' H' x' d' A' m (fun b hb => k b ?_) r'⟩⟩
    rcases List.mem_append.mp hb with hb | hb
    · simp [hb]
    · simp [hb]
section
variable {σ : L2.St} {τ : List D} {S : List Addr}
theorem SA.owned (h : SA c F H σ τ S) : ∀ b ∈ S, F b = none ∧ ∃ o, H b = some o ∧ ∀ ps, o ≠ .tbl ps := h.sl.owned

/-- a growing: nothing is changed, some things are new; N: those that are owned -/
structure Grow (F H F' H' : Hp) (N : List Addr) : Prop where
  f : ∀ b o, F b = some o → F' b = some o
  h : ∀ b o, H b = some o → H' b = some o
  e : ∀ b o, F' b = some o → H' b = some o
  n : ∀ b o, F' b = some o → F b = some o ∨ H b = none
  s : ∀ b ∈ N, H b = none
  nd : N.Nodup
  q : ∀ b ps, F' b = some (.tbl ps) → F b = some (.tbl ps)
theorem Grow.refl (e : ∀ b o, F b = some o → H b = some o) : Grow F H F H [] := ⟨fun _ _ h => h, fun _ _ h => h, e, fun _ _ h => .inl h, fun b z => (by cases z), List.nodup_nil, fun _ _ h => h⟩
theorem Grow.go {N : List Addr} (g : Grow F H F' H' N) (S : List Addr) : Go F H S F' H' (N ++ S) :=
  ⟨g.f, fun b o h _ _ => g.h b o h, fun b hb => (List.mem_append.mp hb).elim (fun z => .inr (NT.of (g.s b z))) .inl, fun b o h => (g.n b o h).elim .inl fun z => .inr (.inr (NT.of z))⟩
theorem Grow.keep {N : List Addr} (g : Grow F H F' H' N) {A : List Addr} (own : ∀ x ∈ A, F x = none ∧ ∃ o, H x = some o ∧ ∀ ps, o ≠ .tbl ps) : ∀ b ∈ A, H' b = H b ∧ F' b = none := fun b hb => by
  obtain ⟨h1, o, h2, _⟩ := own b hb
  refine ⟨(g.h b o h2).trans h2.symm, ?_⟩
  cases e : F' b with
  | none => rfl
  | some u =>
    rcases g.n b u e with z | z
    · rw [h1] at z
      cases z
    · rw [h2] at z
      cases z
theorem Grow.sa {N : List Addr} (g : Grow F H F' H' N) (h : SA c F H σ τ S) : SA c F' H' σ τ S ∧ (N ++ S).Nodup := by
  refine ⟨⟨g.e, fun b ps z => h.nt b ps (g.q b ps z), fun b o z => g.f b o (h.fb b o z), h.tb.ext g.h, Slots.mono g.f h.sl (g.keep h.owned), h.nd, h.fx⟩, List.nodup_append.mpr ⟨g.nd, h.nd, fun x hx y hy z => ?_⟩⟩
  subst z
  obtain ⟨_, o, h2, _⟩ := h.owned x hy
  rw [g.s x hx] at h2
  cases h2
theorem Grow.rel {N : List Addr} (g : Grow F H F' H' N) {d : D} {v : V} {A : List Addr} (r : Rel c F H d v A) : Rel c F' H' d v A := Rel.mono g.f r (g.keep r.owned)
theorem Grow.rels {N : List Addr} (g : Grow F H F' H' N) {d : List D} {v : List V} {A : List Addr} (r : Rels c F H d v A) : Rels c F' H' d v A := Rels.mono g.f r (g.keep r.owned)
theorem Grow.trans {F1 H1 F2 H2 : Hp} {N M : List Addr} (a : Grow F H F1 H1 N) (b : Grow F1 H1 F2 H2 M) : Grow F H F2 H2 M := by
  have no : ∀ x, H1 x = none → H x = none := fun x n => by
    cases e : H x with
    | none => rfl
    | some o =>
      rw [a.h x o e] at n
      cases n
  exact ⟨fun x o h => b.f x o (a.f x o h), fun x o h => b.h x o (a.h x o h), b.e, fun x o h => (b.n x o h).elim (a.n x o) fun z => .inr (no x z), fun x hx => no x (b.s x hx), b.nd, fun x ps h => a.q x ps (b.q x ps h)⟩
/-- a new owned object -/
theorem grow_own {p : Addr} {o : HO} (e : ∀ b u, F b = some u → H b = some u) (hp : H p = none) : Grow F H F (upd H p o) [p] := by
  refine ⟨fun _ _ h => h, fun b u h => ?_, fun b u h => ?_, fun _ _ h => .inl h, fun b hb => ?_, by simp, fun _ _ h => h⟩
  · rw [upd_ne (ne_of_none h hp)]
    exact h
  · rw [upd_ne (ne_of_none (e b u h) hp)]
    exact e b u h
  · rw [List.mem_singleton.mp hb]
    exact hp
/-- a new frozen object -/
theorem grow_frz {p : Addr} {o : HO} (e : ∀ b u, F b = some u → H b = some u) (hp : H p = none) (ht : ∀ ps, o ≠ .tbl ps) : Grow F H (upd F p o) (upd H p o) [] := by
  refine ⟨fun b u h => ?_, fun b u h => ?_, fun b u h => ?_, fun b u h => ?_, fun b z => (by cases z), List.nodup_nil, fun b ps h => ?_⟩
  · rw [upd_ne (ne_of_none (e b u h) hp)]
    exact h
  · rw [upd_ne (ne_of_none h hp)]
    exact h
  · by_cases hb : b = p
    · subst hb
      rw [upd_same] at h ⊢
      exact h
    · rw [upd_ne hb] at h ⊢
      exact e b u h
  · by_cases hb : b = p
    · subst hb
      exact .inr hp
    · rw [upd_ne hb] at h
      exact .inl h
  · by_cases hb : b = p
    · subst hb
      rw [upd_same] at h
      exact absurd (Option.some.inj h) (ht ps)
    · rw [upd_ne hb] at h
      exact h
end
end
end Y
end

section
set_option Elab.async false
set_option linter.all false
set_option maxRecDepth 100000
set_option maxHeartbeats 4000000
/-! Y1: results, the judgement of expressions, operators, displays. -/
namespace Y
open PySem PySem.Spec PyProof.Rows L2

/-- an operand: a slot that is only looked at, or a value -/
inductive Hdl where
  | slot (i : Nat) | val (d : D)
def Hdl.get (τ : List D) : Hdl → D
  | .slot i => (τ[i]?).getD .un
  | .val d => d
inductive Rz (α : Type) where
  | ok (a : α) (τ : List D) | ex (n : Str) (d : D) (τ : List D) | bad
def Rz.bind {α β : Type} : Rz α → (α → List D → Rz β) → Rz β
  | .ok a τ, f => f a τ
  | .ex n d τ, _ => .ex n d τ
  | .bad, _ => .bad
abbrev Den (α : Type) := List D → Rz α

/-- a raised error of the class n, which keeps d -/
def ExP (c : Ctx) (F H : Hp) (n : Str) (d : D) (cv : Value) (dx : Option Addr) : Prop :=
  ∃ C a v, c.mg n = some (.ref C) ∧ cv = .ref C ∧ dx = some a ∧ F a = some (.xd [(("what" : Str), v)]) ∧ Rel c F H d v []
def RelH (c : Ctx) (F H : Hp) (σ : L2.St) (h : Hdl) (v : V) (A : List Addr) : Prop :=
  match h with
  | .slot i => σ[i]? = some (some v) ∧ A = []
  | .val d => Rel c F H d v A
def RelHs (c : Ctx) (F H : Hp) (σ : L2.St) : List Hdl → List V → List Addr → Prop
  | [], vs, A => vs = [] ∧ A = []
  | h :: hs, vs, A => ∃ v ws B C, vs = v :: ws ∧ A = B ++ C ∧ RelH c F H σ h v B ∧ RelHs c F H σ hs ws C

/-- what an end gives -/
def Post {α β : Type} (c : Ctx) (R : Hp → Hp → α → β → List Addr → Prop) (W : WX) (F H : Hp) (σ : L2.St) (S : List Addr) (Q : β → Hp → Prop) : Rz α → Prop
  | .ok a τ' => ∀ v F' H' A S', Go F H S F' H' (A ++ S') → SA c F' H' σ τ' S' → R F' H' a v A → (A ++ S').Nodup → Q v H'
  | .ex n d τ' => ∀ cv dx F' H' S', Go F H S F' H' S' → SA c F' H' σ τ' S' → ExP c F' H' n d cv dx → W cv dx σ H'
  | .bad => False
def tE (c : Ctx) (f : Den Hdl) (W : WX) : TE := fun σ H Q => ∃ τ F S, SA c F H σ τ S ∧ Post c (fun F H => RelH c F H σ) W F H σ S Q (f τ)
def tA (c : Ctx) (f : Den (List Hdl)) (W : WX) : TA := fun σ H Q => ∃ τ F S, SA c F H σ τ S ∧ Post c (fun F H => RelHs c F H σ) W F H σ S Q (f τ)
def tT (c : Ctx) (f : Den Bool) (W : WX) : TT := fun σ H Q => ∃ τ F S, SA c F H σ τ S ∧ Post c (fun _ _ (a : Bool) b A => b = a ∧ A = []) W F H σ S Q (f τ)
/-- the expression e computes f -/
structure Tr (X : Cx) (c : Ctx) (e : Expr) (f : Den Hdl) : Prop where
  pe : ∀ W, L2N.Takes X W → PE X e (tE c f W)
structure TrA (X : Cx) (c : Ctx) (es : List Expr) (f : Den (List Hdl)) : Prop where
  pa : ∀ W, L2N.Takes X W → PA X es (tA c f W)
structure TrT (X : Cx) (c : Ctx) (e : Expr) (f : Den Bool) : Prop where
  pt : ∀ W, L2N.Takes X W → PT X e (tT c f W)
theorem pe_mono {X : Cx} {e : Expr} {t t' : TE} (h : PE X e t) (k : ∀ σ H Q, t' σ H Q → t σ H Q) : PE X e t' := ⟨fun pins s σ H Q I q => h.run pins s σ H Q I (k σ H Q q)⟩
theorem pa_mono {X : Cx} {e : List Expr} {t t' : TA} (h : PA X e t) (k : ∀ σ H Q, t' σ H Q → t σ H Q) : PA X e t' := ⟨fun pos pins s σ H Q I q => h.run pos pins s σ H Q I (k σ H Q q)⟩
theorem pt_mono {X : Cx} {e : Expr} {t t' : TT} (h : PT X e t) (k : ∀ σ H Q, t' σ H Q → t σ H Q) : PT X e t' := ⟨fun pins s σ H Q I q => h.run pins s σ H Q I (k σ H Q q)⟩

section
variable {c : Ctx} {F H F1 H1 F2 H2 : Hp} {σ : L2.St} {τ τ1 : List D} {S S1 A B : List Addr} {W : WX}
/-- from a state behind a step on -/
theorem Post.step {α β : Type} {R : Hp → Hp → α → β → List Addr → Prop} {Q : β → Hp → Prop} (g : Go F H S F1 H1 (A ++ S1)) :
    ∀ {r : Rz α}, Post c R W F H σ S Q r → Post c (fun F' H' a v B => R F' H' a v B) W F1 H1 σ S1 Q r
  | .ok a τ', h => fun v F' H' B S' go sa r nd => h v F' H' B S' (Go.less (Go.trans g go) fun b hb => List.mem_append_right _ hb) sa r nd
  | .ex n d τ', h => fun cv dx F' H' S' go sa x => h cv dx F' H' S' (Go.less (Go.trans g go) fun b hb => List.mem_append_right _ hb) sa x
  | .bad, h => h
theorem RelH.hand {h : Hdl} {v : V} (r : RelH c F1 H1 σ h v A) (b : Go F1 H1 S1 F2 H2 B) (nd : (A ++ S1).Nodup) : RelH c F2 H2 σ h v A := by
  cases h with
  | slot i => exact r
  | val d => exact Rel.hand r b nd
theorem RelH.owned {h : Hdl} {v : V} (r : RelH c F H σ h v A) : ∀ b ∈ A, F b = none ∧ ∃ o, H b = some o ∧ ∀ ps, o ≠ .tbl ps := by
  cases h with
  | slot i =>
    obtain ⟨_, rfl⟩ := r
    intro b z
    cases z
  | val d => exact Rel.owned r
theorem RelHs.owned : ∀ {h : List Hdl} {v : List V} {A : List Addr}, RelHs c F H σ h v A → ∀ b ∈ A, F b = none ∧ ∃ o, H b = some o ∧ ∀ ps, o ≠ .tbl ps
  | [], v, A, h => by obtain ⟨_, rfl⟩ := h; intro b z; cases z
  | d :: ds, vs, A, h => by
    obtain ⟨v, us, B, C, _, rfl, h1, h2⟩ := h
    intro b z
    rcases List.mem_append.mp z with z | z
    · exact RelH.owned h1 b z
    · exact RelHs.owned h2 b z
/-- what an operand is worth now -/
theorem RelH.get {h : Hdl} {v : V} (r : RelH c F H σ h v A) (sa : SA c F H σ τ S) : h.get τ = .un ∨ ∃ B, Rel c F H (h.get τ) v B := by
  cases h with
  | val d => exact .inr ⟨A, r⟩
  | slot i =>
    obtain ⟨e, rfl⟩ := r
    cases hi : τ[i]? with
    | none =>
      left
      show (τ[i]?).getD .un = .un
      rw [hi]
      rfl
    | some d =>
      obtain ⟨x, A, B1, B2, e1, _, r1, _⟩ := Slots.at sa.sl hi
      rw [e] at e1
      cases e1
      have ed : Hdl.get τ (.slot i) = d := by
        show (τ[i]?).getD .un = d
        rw [hi]
        rfl
      rw [ed]
      rcases slotR_of r1 with ⟨z, _⟩ | ⟨v', z, r'⟩
      · exact .inl z
      · cases z
        exact .inr ⟨A, r'⟩
/-- an end that has grown -/
theorem Post.grow {β : Type} {α : Type} {R : Hp → Hp → α → β → List Addr → Prop} {Q : β → Hp → Prop} {a : α} (sa : SA c F H σ τ S) (h : Post c R W F H σ S Q (.ok a τ)) {v : β} {F' H' : Hp} {N : List Addr} (g : Grow F H F' H' N) (r : R F' H' a v N) : Q v H' :=
  let ⟨s1, nd⟩ := g.sa sa
  h v F' H' N S (g.go S) s1 r nd

/-! ### names, constants -/
def nm (i : Nat) : Den Hdl := fun τ => match τ[i]? with
  | some .un => .bad
  | some _ => .ok (.slot i) τ
  | none => .bad
/-- the value of a name, which owns nothing from now on -/
def vl (i : Nat) : Den Hdl := fun τ => match τ[i]? with
  | some .un => .bad
  | some d => .ok (.val d.frz) (τ.set i d.frz)
  | none => .bad
def cst (d : D) : Den Hdl := fun τ => .ok (.val d) τ
theorem set_same {α : Type} : ∀ {l : List α} {i : Nat} {x : α}, l[i]? = some x → l.set i x = l
  | [], _, _, h => by simp at h
  | a :: l, 0, x, h => by
    have e : a = x := by simpa using h
    subst e
    rfl
  | a :: l, i + 1, x, h => by
    have e := set_same (l := l) (i := i) (x := x) (by simpa using h)
    show a :: l.set i x = a :: l
    rw [e]
/-- what a slot owns is given up -/
theorem SA.freeze (sa : SA c F H σ τ S) {i : Nat} {d : D} (hi : τ[i]? = some d) (hd : d ≠ .un) : ∃ F' S' v, Go F H S F' H S' ∧ SA c F' H σ (τ.set i d.frz) S' ∧ σ[i]? = some (some v) ∧ Rel c F' H d.frz v [] := by
  obtain ⟨x, A, B1, B2, e1, rfl, r1, k⟩ := Slots.at sa.sl hi
  rcases slotR_of r1 with ⟨z, _⟩ | ⟨v, rfl, r⟩
  · exact absurd z hd
  have own := r.owned
  have hF : ∀ b o, F b = some o → (fun b => if b ∈ A then H b else F b) b = some o := fun b o h => by
    show (if b ∈ A then H b else F b) = some o
    by_cases hb : b ∈ A
    · rw [(own b hb).1] at h
      cases h
    · rw [if_neg hb]
      exact h
  have nd := sa.nd
  have r' : Rel c (fun b => if b ∈ A then H b else F b) H d.frz v [] := Rel.froze hF r fun b hb => if_pos hb
  refine ⟨fun b => if b ∈ A then H b else F b, B1 ++ B2, v, ⟨hF, fun b o h _ _ => h, fun b hb => .inl ?_, fun b o h => ?_⟩, ⟨fun b o h => ?_, fun b ps h => ?_, fun b o h => hF b o (sa.fb b o h), sa.tb, ?_, ?_, sa.fx⟩, e1, r'⟩
  · rcases List.mem_append.mp hb with z | z
    · exact List.mem_append_left _ z
    · exact List.mem_append_right _ (List.mem_append_right _ z)
  · have h : (if b ∈ A then H b else F b) = some o := h
    by_cases hb : b ∈ A
    · exact .inr (.inl (List.mem_append_right _ (List.mem_append_left _ hb)))
    · rw [if_neg hb] at h
      exact .inl h
  · have h : (if b ∈ A then H b else F b) = some o := h
    by_cases hb : b ∈ A
    · rw [if_pos hb] at h
      exact h
    · rw [if_neg hb] at h
      exact sa.ex b o h
  · have h : (if b ∈ A then H b else F b) = some (.tbl ps) := h
    by_cases hb : b ∈ A
    · rw [if_pos hb] at h
      obtain ⟨_, o, h2, h3⟩ := own b hb
      rw [h2] at h
      exact h3 ps (Option.some.inj h)
    · rw [if_neg hb] at h
      exact sa.nt b ps h
  · have q := k (fun b => if b ∈ A then H b else F b) H (some v) d.frz [] hF (fun b hb => ⟨rfl, ?_⟩) (slotR_mk r')
    · rw [set_same e1] at q
      simpa using q
    · have nb : b ∉ A := fun z => by
        have nd' := List.nodup_append.mp nd
        have nd2 := List.nodup_append.mp nd'.2.1
        rcases List.mem_append.mp hb with y | y
        · exact nd'.2.2 b y b (List.mem_append_left _ z) rfl
        · exact nd2.2.2 b z b y rfl
      show (if b ∈ A then H b else F b) = none
      rw [if_neg nb]
      refine (sa.owned b ?_).1
      rcases List.mem_append.mp hb with y | y
      · exact List.mem_append_left _ y
      · exact List.mem_append_right _ (List.mem_append_right _ y)
  · have nd' := List.nodup_append.mp nd
    have nd2 := List.nodup_append.mp nd'.2.1
    exact List.nodup_append.mpr ⟨nd'.1, nd2.2.1, fun x hx y hy => nd'.2.2 x hx y (List.mem_append_right _ hy)⟩
end

section
variable {X : Cx} {c : Ctx}
theorem t_nm (i : Nat) {x : Str} {pos : Pos} (hN : X.N[i]? = some x := by rfl) (hv : Vis X.env.scope x := by first | exact Or.inl rfl | exact Or.inr (Or.inl rfl) | exact Or.inr (Or.inr rfl)) (hd : (x == ("__debug__" : Str)) = false := by decide)
    (hcd : (x == ("__classdict__" : Str)) = false := by decide) : Tr X c (.Name x pos) (nm i) := by
  refine ⟨fun W _ => pe_mono (pe_var hN hv hd hcd) fun σ H Q h => ?_⟩
  obtain ⟨τ, F, S, sa, h⟩ := h
  unfold nm at h
  cases e : τ[i]? with
  | none => rw [e] at h; exact h.elim
  | some d =>
    rw [e] at h
    obtain ⟨x, A, B1, B2, e1, _, r1, _⟩ := Slots.at sa.sl e
    rcases slotR_of r1 with ⟨rfl, _⟩ | ⟨v, rfl, r⟩
    · exact h.elim
    · refine ⟨v, e1, ?_⟩
      have h' : Post c (fun F H => RelH c F H σ) W F H σ S Q (.ok (.slot i) τ) := by
        cases d <;> first | exact h | exact r.elim
      exact h' v F H [] S Go.refl sa ⟨e1, rfl⟩ sa.nd
theorem t_vl (i : Nat) {x : Str} {pos : Pos} (hN : X.N[i]? = some x := by rfl) (hv : Vis X.env.scope x := by first | exact Or.inl rfl | exact Or.inr (Or.inl rfl) | exact Or.inr (Or.inr rfl)) (hd : (x == ("__debug__" : Str)) = false := by decide)
    (hcd : (x == ("__classdict__" : Str)) = false := by decide) : Tr X c (.Name x pos) (vl i) := by
  refine ⟨fun W _ => pe_mono (pe_var hN hv hd hcd) fun σ H Q h => ?_⟩
  obtain ⟨τ, F, S, sa, h⟩ := h
  unfold vl at h
  cases e : τ[i]? with
  | none => rw [e] at h; exact h.elim
  | some d =>
    rw [e] at h
    have hn : d ≠ .un := fun z => by subst z; exact h.elim
    obtain ⟨F', S', v, g, sa', e1, r⟩ := sa.freeze e hn
    refine ⟨v, e1, ?_⟩
    have h' : Post c (fun F H => RelH c F H σ) W F H σ S Q (.ok (.val d.frz) (τ.set i d.frz)) := by
      cases d <;> first | exact h | exact (hn rfl).elim
    exact h' v F' H [] S' g sa' r sa'.nd
theorem tr_cst {e : Expr} {d : D} {v : V} (h : PE X e (tC v)) (r : ∀ F H, Rel c F H d v []) : Tr X c e (cst d) := by
  refine ⟨fun W _ => pe_mono h fun σ H Q h => ?_⟩
  obtain ⟨τ, F, S, sa, h⟩ := h
  exact h v F H [] S Go.refl sa (r F H) sa.nd
theorem t_int {i j pos} : Tr X c (.Constant (.int i) j pos) (cst (.int i)) := tr_cst pe_int fun _ _ => ⟨rfl, rfl⟩
theorem t_bl {b j pos} : Tr X c (.Constant (.bool b) j pos) (cst (.bl b)) := tr_cst pe_bl fun _ _ => ⟨rfl, rfl⟩
theorem t_non {j pos} : Tr X c (.Constant .none j pos) (cst .non) := tr_cst pe_non fun _ _ => ⟨rfl, rfl⟩
theorem t_str {x j pos} : Tr X c (.Constant (.str x) j pos) (cst (.str x)) := tr_cst pe_str fun _ _ => ⟨rfl, rfl⟩
/-- a module's int -/
theorem t_gint {x : Str} {i : Int} {t : Tok} {pos : Pos} (hm : X.mg x = some (.int i t)) (hg : Gl X x := by rfl) (hd : (x == ("__debug__" : Str)) = false := by decide) : Tr X c (.Name x pos) (cst (.int i)) :=
  tr_cst (v := .int i) (pe_glob hg hm ⟨t, rfl⟩ hd) fun _ _ => ⟨rfl, rfl⟩

/-! ### operators -/
def bin (g : D → D → Option D) (f1 f2 : Den Hdl) : Den Hdl := fun τ => (f1 τ).bind fun h1 τ1 => (f2 τ1).bind fun h2 τ2 => match g (h1.get τ2) (h2.get τ2) with
  | some d => .ok (.val d) τ2
  | none => .bad
def uno (g : D → Option D) (f : Den Hdl) : Den Hdl := fun τ => (f τ).bind fun h τ1 => match g (h.get τ1) with
  | some d => .ok (.val d) τ1
  | none => .bad
structure OpS (c : Ctx) (r : R2) (g : D → D → Option D) : Prop where
  un1 : ∀ y, g .un y = none
  un2 : ∀ x, g x .un = none
  run : ∀ {F H : Hp} {x y : V} {dx dy : D} {A B : List Addr} {d : D} {Q : VK}, (∀ b o, F b = some o → H b = some o) → Rel c F H dx x A → Rel c F H dy y B → g dx dy = some d →
    (∀ v F' H' N, Grow F H F' H' N → Rel c F' H' d v N → Q v H') → r x y H Q
structure UoS (c : Ctx) (r : V → Hp → VK → Prop) (g : D → Option D) : Prop where
  un1 : g .un = none
  run : ∀ {F H : Hp} {x : V} {dx : D} {A : List Addr} {d : D} {Q : VK}, (∀ b o, F b = some o → H b = some o) → Rel c F H dx x A → g dx = some d →
    (∀ v F' H' N, Grow F H F' H' N → Rel c F' H' d v N → Q v H') → r x H Q
theorem bin_sound {r : R2} {g : D → D → Option D} {f1 f2 : Den Hdl} {W : WX} (hs : OpS c r g) {σ : L2.St} {H : Hp} {Q : VK} (h : tE c (bin g f1 f2) W σ H Q) : tOp r (tE c f1 W) (tE c f2 W) σ H Q := by
  obtain ⟨τ, F, S, sa, h⟩ := h
  refine ⟨τ, F, S, sa, ?_⟩
  unfold bin at h
  cases e1 : f1 τ with
  | bad => rw [e1] at h; exact h
  | ex n d τ' => rw [e1] at h; exact h
  | ok h1 τ1 =>
    rw [e1] at h
    intro v1 F1 H1 A1 S1 g1 sa1 r1 nd1
    refine ⟨τ1, F1, S1, sa1, ?_⟩
    have h : Post c (fun F H => RelH c F H σ) W F H σ S Q ((f2 τ1).bind fun h2 τ2 => match g (h1.get τ2) (h2.get τ2) with
      | some d => .ok (.val d) τ2
      | none => .bad) := h
    cases e2 : f2 τ1 with
    | bad => rw [e2] at h; exact h
    | ex n d τ' =>
      rw [e2] at h
      exact Post.step (α := Hdl) (β := V) (R := fun F H => RelH c F H σ) (Q := Q) (r := .ex n d τ') g1 h
    | ok h2 τ2 =>
      rw [e2] at h
      intro v2 F2 H2 A2 S2 g2 sa2 r2 nd2
      have h : Post c (fun F H => RelH c F H σ) W F H σ S Q (match g (h1.get τ2) (h2.get τ2) with
        | some d => .ok (.val d) τ2
        | none => .bad) := h
      have r1' := r1.hand g2 nd1
      have go := Go.trans g1 g2
      cases eg : g (h1.get τ2) (h2.get τ2) with
      | none => rw [eg] at h; exact h.elim
      | some d =>
        rw [eg] at h
        rcases r1'.get sa2 with z | ⟨B1, q1⟩
        · rw [z, hs.un1] at eg
          cases eg
        rcases r2.get sa2 with z | ⟨B2, q2⟩
        · rw [z, hs.un2] at eg
          cases eg
        refine hs.run sa2.ex q1 q2 eg fun v F' H' N gr rr => ?_
        obtain ⟨sa', nd'⟩ := gr.sa sa2
        exact h v F' H' N S2 (Go.trans0 (Go.less go fun b hb => List.mem_append_right _ (List.mem_append_right _ hb)) (gr.go S2)) sa' rr nd'
theorem uno_sound {r : V → Hp → VK → Prop} {g : D → Option D} {f : Den Hdl} {W : WX} (hs : UoS c r g) {σ : L2.St} {H : Hp} {Q : VK} (h : tE c (uno g f) W σ H Q) : tE c f W σ H fun x H1 => r x H1 Q := by
  obtain ⟨τ, F, S, sa, h⟩ := h
  refine ⟨τ, F, S, sa, ?_⟩
  unfold uno at h
  cases e1 : f τ with
  | bad => rw [e1] at h; exact h
  | ex n d τ' => rw [e1] at h; exact h
  | ok h1 τ1 =>
    rw [e1] at h
    intro v1 F1 H1 A1 S1 g1 sa1 r1 nd1
    have h : Post c (fun F H => RelH c F H σ) W F H σ S Q (match g (h1.get τ1) with
        | some d => .ok (.val d) τ1
        | none => .bad) := h
    cases eg : g (h1.get τ1) with
    | none => rw [eg] at h; exact h.elim
    | some d =>
      rw [eg] at h
      rcases r1.get sa1 with z | ⟨B1, q1⟩
      · rw [z, hs.un1] at eg
        cases eg
      refine hs.run sa1.ex q1 eg fun v F' H' N gr rr => ?_
      obtain ⟨sa', nd'⟩ := gr.sa sa1
      exact h v F' H' N S1 (Go.trans0 (Go.less g1 fun b hb => List.mem_append_right _ hb) (gr.go S1)) sa' rr nd'
theorem t_bin {op : Operator} {r : R2} {g : D → D → Option D} {a b : Expr} {f1 f2 : Den Hdl} {pos : Pos} (ho : OpR X (binaryOp op) r) (hs : OpS c r g) (ha : Tr X c a f1) (hb : Tr X c b f2) : Tr X c (.BinOp a op b pos) (bin g f1 f2) :=
  ⟨fun W tk => pe_mono (pe_op ho (ha.pe W tk) (hb.pe W tk)) fun _ _ _ h => bin_sound hs h⟩
theorem t_cmp {op : CmpOp} {r : R2} {g : D → D → Option D} {a b : Expr} {f1 f2 : Den Hdl} {pos : Pos} (ho : OpR X (compareOp op) r) (hs : OpS c r g) (ha : Tr X c a f1) (hb : Tr X c b f2) (hm : behindInMarks op b = false := by first | exact nomark _ | rfl) : Tr X c (.Compare a [op] [b] pos) (bin g f1 f2) :=
  ⟨fun W tk => pe_mono (pe_cmpR ho (ha.pe W tk) (hb.pe W tk) hm) fun _ _ _ h => bin_sound hs h⟩
theorem t_ix {r : R2} {g : D → D → Option D} {a b : Expr} {f1 f2 : Den Hdl} {pos : Pos} (ho : IxR X r) (hs : OpS c r g) (ha : Tr X c a f1) (hb : Tr X c b f2) (hp : PlainIx b := by exact fun _ _ => rfl) : Tr X c (.Subscript a b pos) (bin g f1 f2) :=
  ⟨fun W tk => pe_mono (pe_ix ho (ha.pe W tk) (hb.pe W tk) hp) fun _ _ _ h => bin_sound hs h⟩
theorem t_un {op : UnaryOp} {r : V → Hp → VK → Prop} {g : D → Option D} {a : Expr} {f : Den Hdl} {pos : Pos} (ho : UnR X (unaryOp op) r) (hs : UoS c r g) (ha : Tr X c a f) : Tr X c (.UnaryOp op a pos) (uno g f) :=
  ⟨fun W tk => pe_mono (pe_un ho (ha.pe W tk)) fun _ _ _ h => uno_sound hs h⟩
end
end Y
end

section
set_option Elab.async false
set_option linter.all false
set_option maxRecDepth 100000
set_option maxHeartbeats 4000000
/-! Y1B: a tuple once, or no times. -/
namespace Y
open PySem PySem.Spec PyProof.Rows L2
theorem tuple_mulS (l : Addr) (items : Array Value) (n : Nat) (dd : Option Addr) (sl : Array (Option Value)) (x : Int) (u : Tok) (c0 : (decide (x < -(2 ^ 63)) || decide (x ≥ 2 ^ 63)) = false) (c1 : (items.isEmpty || x == 1) = true) :
    Meets (Builtin.«tuple.__mul__» ⟨[.ref l, .int x u], []⟩) (fun _ R s => s.heap.get? l = some { cls := .type "tuple", dict := dd, data := .seq items n, slots := sl } ∧
      R (.ok (.ret (Value.ref l))) s) :=
  .of_wp fun prog w A R s h => by
    obtain ⟨hp, g, d, tk, os⟩ := s
    obtain ⟨hl, h⟩ := h
    have f1 := AutoSeq1.idx_int
    wp_walk using wpAny_loadPart' hl
    repeat (first
      | (refine wpAny_ite_false (decide_eq_false (by rw [c0]; exact Bool.false_ne_true)) ?_; wp_walk using wpAny_loadPart' hl)
      | (refine wpAny_ite_true (decide_eq_true (by rw [c1])) ?_; wp_walk using wpAny_loadPart' hl))
    exact ⟨_, rfl, h⟩
theorem tuple_mul0 (l : Addr) (items : Array Value) (n : Nat) (dd : Option Addr) (sl : Array (Option Value)) (x : Int) (u : Tok) (c0 : (decide (x < -(2 ^ 63)) || decide (x ≥ 2 ^ 63)) = false) (c1 : (items.isEmpty || x == 1) = false) (c2 : (decide (x ≤ 0) || items.isEmpty) = true) :
    Meets (Builtin.«tuple.__mul__» ⟨[.ref l, .int x u], []⟩) (fun _ R s => s.heap.get? l = some { cls := .type "tuple", dict := dd, data := .seq items n, slots := sl } ∧
      R (.ok (.ret (Value.ref s.heap.objs.size))) { s with heap := s.heap.push { cls := Value.type "tuple", data := Data.seq #[] }, toks := s.toks }) :=
  .of_wp fun prog w A R s h => by
    obtain ⟨hp, g, d, tk, os⟩ := s
    obtain ⟨hl, h⟩ := h
    have f1 := AutoSeq1.idx_int
    wp_walk using wpAny_loadPart' hl
    repeat (first
      | (refine wpAny_ite_false (decide_eq_false (by rw [c0]; exact Bool.false_ne_true)) ?_; wp_walk using wpAny_loadPart' hl)
      | (refine wpAny_ite_false (decide_eq_false (by rw [c1]; exact Bool.false_ne_true)) ?_; wp_walk using wpAny_loadPart' hl)
      | (refine wpAny_ite_true (decide_eq_true (by rw [c2])) ?_; wp_walk using wpAny_loadPart' hl))
    exact ⟨_, rfl, h⟩
def rRep0 (K : PySem.W.Frag) : R2 := fun x y H Q => ∃ l k xs, x = .ref l ∧ y = .int k ∧ SqT K H l xs ∧ -1000000 ≤ k ∧ k ≤ 1000 ∧ (xs = [] ∨ k ≤ 1) ∧ ((xs = [] ∨ k = 1) → Q (.ref l) H) ∧ (¬ (xs = [] ∨ k = 1) → ∀ p, H p = none → Q (.ref p) (upd H p (.tup [])))
section
variable {X : Cx}
theorem op_rep0 : OpR X (binaryOp .Mult) (rRep0 X.K) := by
  intro pins s σ H x y v u Q I rx ry h
  obtain ⟨l, k, xs, rfl, rfl, hT, h1, h2, h3, q1, q2⟩ := h
  cases rx
  obtain ⟨t, rfl⟩ := ry
  obtain ⟨its, r, ⟨⟨cls, dd, data, sl⟩, ho, hc, n, hd⟩, hs⟩ := I.tuple hT
  simp only at hc hd
  subst hc hd
  have hle : its.length = xs.length := r.length.symm
  have c0 : (decide (k < -(2 ^ 63)) || decide (k ≥ 2 ^ 63)) = false := by
    rw [decide_eq_false (by omega), decide_eq_false (by omega)] <;> rfl
  by_cases hk : xs = [] ∨ k = 1
  · have c1 : (its.toArray.isEmpty || k == 1) = true := by
      rcases hk with e | e
      · subst e
        have : its = [] := List.eq_nil_of_length_eq_zero hle
        subst this
        rfl
      · subst e
        simp
    refine wpAny_binaryOp_repeat_ref (T := "tuple") (U := "int") (by decide) ⟨_, ho, rfl⟩ (fun s' => typeIs_int s' k t) noFill_tuple_mul F.fills_int_mul F.slot_int_rmul repeat_tuple F.slot_int_index.lookup
      (call_meets F.slot_int_rmul (typeIs_int s k t) F.entry_int_rmul (F.args_int_rmul_2 _ _) (int_rmul_tuple k t l its.toArray n dd sl)
        ⟨ho, rfl, ⟨_, ho, rfl⟩, call_meets F.slot_tuple_mul ⟨_, ho, rfl⟩ F.entry_tuple_mul (F.args_tuple_mul_2 _ _) (tuple_mulS l its.toArray n dd sl k t c0 c1) ⟨ho, ?_⟩⟩)
    exact ⟨.ref l, H, I, rfl, q1 hk⟩
  · have hx : xs ≠ [] := fun e => hk (.inl e)
    have hk1 : k ≠ 1 := fun e => hk (.inr e)
    have hk2 : k ≤ 0 := by
      rcases h3 with e | e
      · exact absurd e hx
      · omega
    have hn : its ≠ [] := fun e => hx (by
      rw [e] at hle
      exact List.eq_nil_of_length_eq_zero hle.symm)
    have hi : its.toArray.isEmpty = false := by
      cases its with
      | nil => exact absurd rfl hn
      | cons a b => rfl
    have c1 : (its.toArray.isEmpty || k == 1) = false := by
      rw [hi, Bool.false_or]
      exact beq_eq_false_iff_ne.mpr hk1
    have c2 : (decide (k ≤ 0) || its.toArray.isEmpty) = true := by
      rw [decide_eq_true hk2]
      rfl
    refine wpAny_binaryOp_repeat_ref (T := "tuple") (U := "int") (by decide) ⟨_, ho, rfl⟩ (fun s' => typeIs_int s' k t) noFill_tuple_mul F.fills_int_mul F.slot_int_rmul repeat_tuple F.slot_int_index.lookup
      (call_meets F.slot_int_rmul (typeIs_int s k t) F.entry_int_rmul (F.args_int_rmul_2 _ _) (int_rmul_tuple k t l its.toArray n dd sl)
        ⟨ho, rfl, ⟨_, ho, rfl⟩, call_meets F.slot_tuple_mul ⟨_, ho, rfl⟩ F.entry_tuple_mul (F.args_tuple_mul_2 _ _) (tuple_mul0 l its.toArray n dd sl k t c0 c1 c2) ⟨ho, ?_⟩⟩)
    refine ⟨.ref s.heap.objs.size, _, I.laid (t' := s.toks) (o := .tup []) (fun b ob q => Heap.get?_push_of_some _ q) (Nat.le_refl _) ?_, rfl, q2 hk _ (I.hok.fresh (Nat.le_refl _))⟩
    exact ⟨Nat.zero_le _, [], .nil, IsTup.new _ _⟩
end
end Y
end

section
set_option Elab.async false
set_option linter.all false
set_option maxRecDepth 100000
set_option maxHeartbeats 4000000
/-! Y2: what the operators do to data; tests; displays; built-in functions. -/
namespace Y
open PySem PySem.Spec PyProof.Rows L2

/-! ### whole numbers -/
def iop (g : Int → Int → D) : D → D → Option D
  | .int i, .int j => some (g i j)
  | _, _ => none
def iopC (C : Int → Int → Bool) (g : Int → Int → D) : D → D → Option D
  | .int i, .int j => if C i j = true then some (g i j) else none
  | _, _ => none
section
variable {c : Ctx}
theorem rel_int {F H : Hp} {i : Int} : Rel c F H (.int i) (.int i) [] := ⟨rfl, rfl⟩
theorem rel_bl {F H : Hp} {i : Bool} : Rel c F H (.bl i) (.bl i) [] := ⟨rfl, rfl⟩
theorem iop_sound {g : Int → Int → D} {gv : Int → Int → V} (h : ∀ i j F H, Rel c F H (g i j) (gv i j) []) : OpS c (rI0 gv) (iop g) := by
  refine ⟨fun y => by cases y <;> rfl, fun x => by cases x <;> rfl, fun {F H x y dx dy A B d Q} e rx ry eg q => ?_⟩
  cases dx <;> first | (cases eg; done) | skip
  cases dy <;> first | (cases eg; done) | skip
  obtain ⟨rfl, _⟩ := rx
  obtain ⟨rfl, _⟩ := ry
  cases eg
  exact ⟨_, _, rfl, rfl, q _ _ _ [] (Grow.refl e) (h _ _ _ _)⟩
theorem iopC_sound {C : Int → Int → Bool} {P : Int → Int → Prop} {g : Int → Int → D} {gv : Int → Int → V} (hP : ∀ i j, C i j = true → P i j) (h : ∀ i j F H, Rel c F H (g i j) (gv i j) []) : OpS c (rI P gv) (iopC C g) := by
  refine ⟨fun y => by cases y <;> rfl, fun x => by cases x <;> rfl, fun {F H x y dx dy A B d Q} e rx ry eg q => ?_⟩
  cases dx <;> first | (cases eg; done) | skip
  cases dy <;> first | (cases eg; done) | skip
  rename_i i j
  obtain ⟨rfl, _⟩ := rx
  obtain ⟨rfl, _⟩ := ry
  have eg : (if C i j = true then some (g i j) else none) = some d := eg
  by_cases hc : C i j = true
  · rw [if_pos hc] at eg
    cases eg
    exact ⟨_, _, rfl, rfl, hP _ _ hc, q _ _ _ [] (Grow.refl e) (h _ _ _ _)⟩
  · rw [if_neg hc] at eg
    cases eg
def subD := iop fun i j => .int (i - j)
def mulC (i j : Int) : Bool := decide (i.natAbs.log2 + j.natAbs.log2 < 1000000)
def fdivC (_ j : Int) : Bool := decide (0 < j) && decide (j.natAbs.log2 < 9000)
def modC (_ j : Int) : Bool := decide (0 < j)
def powC (i j : Int) : Bool := decide (0 ≤ j) && decide (j ≤ 1000) && decide (i.natAbs < 18446744073709551616)
def fdivD := iopC fdivC fun i j => .int (i / j)
def modD := iopC modC fun i j => .int (i % j)
def powD := iopC powC fun i j => .int (i ^ j.toNat)
def ltD := iop fun i j => .bl (decide (i < j))
def leD := iop fun i j => .bl (decide (i ≤ j))
def gtD := iop fun i j => .bl (decide (j < i))
def geD := iop fun i j => .bl (decide (j ≤ i))
end
section
variable {X : Cx} {c : Ctx} {a b : Expr} {f1 f2 : Den Hdl} {pos : Pos}
theorem t_sub (ha : Tr X c a f1) (hb : Tr X c b f2) : Tr X c (.BinOp a .Sub b pos) (bin subD f1 f2) := t_bin op_sub (iop_sound fun _ _ _ _ => rel_int) ha hb
theorem t_fdiv (ha : Tr X c a f1) (hb : Tr X c b f2) : Tr X c (.BinOp a .FloorDiv b pos) (bin fdivD f1 f2) := t_bin op_fdivW (iopC_sound (fun i j h => by
  rw [fdivC, Bool.and_eq_true, decide_eq_true_eq, decide_eq_true_eq] at h
  exact h) fun _ _ _ _ => rel_int) ha hb
theorem t_mod (ha : Tr X c a f1) (hb : Tr X c b f2) : Tr X c (.BinOp a .Mod b pos) (bin modD f1 f2) := t_bin op_mod (iopC_sound (fun i j h => of_decide_eq_true h) fun _ _ _ _ => rel_int) ha hb
theorem t_pow (ha : Tr X c a f1) (hb : Tr X c b f2) : Tr X c (.BinOp a .Pow b pos) (bin powD f1 f2) := t_bin op_pow (iopC_sound (fun i j h => by
  rw [powC, Bool.and_eq_true, Bool.and_eq_true, decide_eq_true_eq, decide_eq_true_eq, decide_eq_true_eq] at h
  exact ⟨h.1.1, by omega, by have := h.2; omega⟩) fun _ _ _ _ => rel_int) ha hb
theorem t_lt (ha : Tr X c a f1) (hb : Tr X c b f2) : Tr X c (.Compare a [.Lt] [b] pos) (bin ltD f1 f2) := t_cmp op_lt (iop_sound fun _ _ _ _ => rel_bl) ha hb
theorem t_le (ha : Tr X c a f1) (hb : Tr X c b f2) : Tr X c (.Compare a [.LtE] [b] pos) (bin leD f1 f2) := t_cmp op_le (iop_sound fun _ _ _ _ => rel_bl) ha hb
theorem t_gt (ha : Tr X c a f1) (hb : Tr X c b f2) : Tr X c (.Compare a [.Gt] [b] pos) (bin gtD f1 f2) := t_cmp op_gt (iop_sound fun _ _ _ _ => rel_bl) ha hb
theorem t_ge (ha : Tr X c a f1) (hb : Tr X c b f2) : Tr X c (.Compare a [.GtE] [b] pos) (bin geD f1 f2) := t_cmp op_ge (iop_sound fun _ _ _ _ => rel_bl) ha hb
theorem OpR.or {f : Value → Value → Sem Value} {r r' : R2} (h : OpR X f r) (h' : OpR X f r') : OpR X f (fun x y H Q => r x y H Q ∨ r' x y H Q) := fun pins s σ H x y v u Q I rx ry q =>
  q.elim (h pins s σ H x y v u Q I rx ry) (h' pins s σ H x y v u Q I rx ry)
def negD : D → Option D
  | .int i => some (.int (-i))
  | _ => none
theorem t_neg (ha : Tr X c a f1) : Tr X c (.UnaryOp .USub a pos) (uno negD f1) := t_un un_neg ⟨rfl, fun {F H x dx A d Q} e rx eg q => by
  cases dx <;> first | (cases eg; done) | skip
  obtain ⟨rfl, _⟩ := rx
  cases eg
  exact ⟨_, rfl, q _ _ _ [] (Grow.refl e) rel_int⟩⟩ ha

/-! ### + * -/
def addD : D → D → Option D
  | .int i, .int j => some (.int (i + j))
  | .str i, .str j => if i.length + j.length ≤ 100000 then some (.str (i ++ j)) else none
  | .tup xs, .tup ys => if D.pls xs && D.pls ys && decide (xs.length + ys.length ≤ 100000) then some (.tup (xs ++ ys)) else none
  | .lst _ xs, .lst _ ys => if D.pls xs && D.pls ys && decide (xs.length + ys.length ≤ 100000) then some (.lst true (xs ++ ys)) else none
  | _, _ => none
theorem size_ok {n : Nat} (h : n ≤ 100000) : n ≤ sizeLine := Nat.le_trans h (by decide)
theorem pls_app {xs ys : List D} (h1 : D.pls xs = true) (h2 : D.pls ys = true) : D.pls (xs ++ ys) = true := by
  rw [pls_all] at *
  rw [List.all_append, h1, h2]
  rfl
theorem rel_tupN {F H F' H' : Hp} {p : Addr} {ds : List D} {vs : List V} {A : List Addr} (r : Rels c F H ds vs A) (g : Grow F H F' H' []) (hp : F' p = some (.tup vs)) : Rel c F' H' (.tup ds) (.ref p) A := ⟨p, vs, rfl, .inl (.inl hp), g.rels r⟩
theorem Grow.old {c : Ctx} {F H F' H' : Hp} {N : List Addr} (g : Grow F H F' H' N) {d : D} {v : V} (r : Rel c F H d v []) : Rel c F' H' d v [] := g.rel r
/-- a list that H tells, owned or frozen -/
theorem rel_lst {F H : Hp} (e : ∀ b o, F b = some o → H b = some o) {o : Bool} {xs : List D} {v : V} {A : List Addr} (r : Rel c F H (.lst o xs) v A) : ∃ p vs B, v = .ref p ∧ H p = some (.lst vs) ∧ Rels c F H xs vs B ∧ (∀ b ∈ B, b ∈ A) := by
  cases o with
  | true =>
    obtain ⟨p, vs, B, h0, h1, h2, rfl, r⟩ := r
    exact ⟨p, vs, B, h0, h1, r, fun b hb => List.mem_cons_of_mem _ hb⟩
  | false =>
    obtain ⟨p, vs, h0, h1, rfl, r⟩ := r
    exact ⟨p, vs, [], h0, e _ _ h1, r, fun b hb => hb⟩
theorem rel_new {F H : Hp} {p : Addr} {ds : List D} {vs : List V} (e : ∀ b o, F b = some o → H b = some o) (r : Rels c F H ds vs []) (hp : H p = none) : Grow F H F (upd H p (.lst vs)) [p] ∧ Rel c F (upd H p (.lst vs)) (.lst true ds) (.ref p) [p] := by
  have g : Grow F H F (upd H p (.lst vs)) [p] := grow_own e hp
  refine ⟨g, p, vs, [], rfl, upd_same, ?_, rfl, g.rels r⟩
  cases q : F p with
  | none => rfl
  | some o =>
    rw [e p o q] at hp
    cases hp
theorem rel_newT {F H : Hp} {p : Addr} {ds : List D} {vs : List V} {A : List Addr} (e : ∀ b o, F b = some o → H b = some o) (r : Rels c F H ds vs A) (hp : H p = none) : Grow F H (upd F p (.tup vs)) (upd H p (.tup vs)) [] ∧ Rel c (upd F p (.tup vs)) (upd H p (.tup vs)) (.tup ds) (.ref p) A := by
  have g : Grow F H (upd F p (.tup vs)) (upd H p (.tup vs)) [] := grow_frz e hp fun ps z => by cases z
  exact ⟨g, rel_tupN r g upd_same⟩
theorem vs_nil {F H : Hp} {ds : List D} {vs : List V} {A : List Addr} (r : Rels c F H ds vs A) : vs = [] ↔ ds = [] := by
  have := r.length
  constructor
  · rintro rfl
    exact List.length_eq_zero_iff.mp this.symm
  · rintro rfl
    exact List.length_eq_zero_iff.mp this
def rAdd (K : PySem.W.Frag) : R2 := fun x y H Q => (((rI0 fun i j => .int (i + j)) x y H Q ∨ (fun x y H Q => ∃ i j, x = .str i ∧ y = .str j ∧ i.length + j.length ≤ sizeLine ∧ Q (.str (i ++ j)) H) x y H Q) ∨ rCatA K x y H Q) ∨ rCat x y H Q
theorem sqT_sub {K : PySem.W.Frag} {F H : Hp} {a : Addr} {xs : List V} (e : ∀ b o, F b = some o → H b = some o) (h : SqT K F a xs) : SqT K H a xs := sqT_mono e h
theorem add_sound : OpS c (rAdd c.K) addD := by
  refine ⟨fun y => by cases y <;> rfl, fun x => by cases x <;> rfl, fun {F H x y dx dy A B d Q} e rx ry eg q => ?_⟩
  cases dx <;> first | (cases eg; done) | skip
  case int =>
    cases dy <;> first | (cases eg; done) | skip
    obtain ⟨rfl, _⟩ := rx
    obtain ⟨rfl, _⟩ := ry
    cases eg
    exact .inl (.inl (.inl ⟨_, _, rfl, rfl, q _ _ _ [] (Grow.refl e) rel_int⟩))
  case str =>
    cases dy <;> first | (cases eg; done) | skip
    rename_i i j
    have eg : (if i.length + j.length ≤ 100000 then some (D.str (i ++ j)) else none) = some d := eg
    split at eg <;> cases eg
    rename_i hl
    obtain ⟨rfl, _⟩ := rx
    obtain ⟨rfl, _⟩ := ry
    exact .inl (.inl (.inr ⟨_, _, rfl, rfl, size_ok hl, q _ _ _ [] (Grow.refl e) ⟨rfl, rfl⟩⟩))
  case tup xs =>
    cases dy <;> first | (cases eg; done) | skip
    rename_i ys
    have eg : (if D.pls xs && D.pls ys && decide (xs.length + ys.length ≤ 100000) then some (D.tup (xs ++ ys)) else none) = some d := eg
    split at eg <;> cases eg
    rename_i hl
    simp only [Bool.and_eq_true, decide_eq_true_eq] at hl
    obtain ⟨⟨p1, p2⟩, hl⟩ := hl
    obtain ⟨p, vs, rfl, s1, r1⟩ := rx
    obtain ⟨p', ws, rfl, s2, r2⟩ := ry
    have z1 := r1.pl_nil p1
    have z2 := r2.pl_nil p2
    subst z1
    subst z2
    refine .inl (.inr ⟨p, p', vs, ws, rfl, rfl, sqT_sub e s1, sqT_sub e s2, size_ok (by rw [r1.length, r2.length]; exact hl), fun z => ?_, fun _ z => ?_, fun _ _ l hn => ?_⟩)
    · have z' := (vs_nil r1).mp z
      subst z'
      exact q _ _ _ [] (Grow.refl e) ⟨p', ws, rfl, s2, r2⟩
    · have z' := (vs_nil r2).mp z
      subst z'
      rw [List.append_nil] at q
      exact q _ _ _ [] (Grow.refl e) ⟨p, vs, rfl, s1, r1⟩
    · obtain ⟨g, r⟩ := rel_newT e (r1.append r2) hn
      exact q _ _ _ [] g r
  case lst o xs =>
    cases dy <;> first | (cases eg; done) | skip
    rename_i o2 ys
    have eg : (if D.pls xs && D.pls ys && decide (xs.length + ys.length ≤ 100000) then some (D.lst true (xs ++ ys)) else none) = some d := eg
    split at eg <;> cases eg
    rename_i hl
    simp only [Bool.and_eq_true, decide_eq_true_eq] at hl
    obtain ⟨⟨p1, p2⟩, hl⟩ := hl
    obtain ⟨p, vs, B1, rfl, s1, r1, _⟩ := rel_lst e rx
    obtain ⟨p', ws, B2, rfl, s2, r2, _⟩ := rel_lst e ry
    have z1 := r1.pl_nil p1
    have z2 := r2.pl_nil p2
    subst z1
    subst z2
    refine .inr ⟨p, p', vs, ws, rfl, rfl, s1, s2, size_ok (by rw [r1.length, r2.length]; exact hl), fun l hn => ?_⟩
    obtain ⟨g, r⟩ := rel_new e (r1.append r2) hn
    exact q _ _ _ [l] g r
theorem t_add (hK : c.K = X.K) (ha : Tr X c a f1) (hb : Tr X c b f2) : Tr X c (.BinOp a .Add b pos) (bin addD f1 f2) :=
  t_bin (r := rAdd c.K) (by rw [hK]; exact ((op_add.or op_add_str).or op_catA).or op_cat) add_sound ha hb
def mulD : D → D → Option D
  | .int i, .int j => if mulC i j then some (.int (i * j)) else none
  | .lst _ xs, .int k => if D.pls xs && decide (-1000 ≤ k) && decide (k ≤ 10000) && decide (xs.length * k.toNat ≤ 100000) then some (.lst true (List.replicate k.toNat xs).flatten) else none
  | .tup xs, .int k => if D.pls xs && decide (-1000000 ≤ k) && decide (k ≤ 1000) && decide (xs.length ≤ 1000) then some (.tup (List.replicate k.toNat xs).flatten) else none
  | _, _ => none
theorem rels_rep {F H : Hp} {ds : List D} {vs : List V} (r : Rels c F H ds vs []) : ∀ k : Nat, Rels c F H (List.replicate k ds).flatten (List.replicate k vs).flatten []
  | 0 => Rels.nil
  | k + 1 => by
    rw [List.replicate_succ, List.replicate_succ, List.flatten_cons, List.flatten_cons]
    exact r.append (rels_rep r k)
def rMul (K : PySem.W.Frag) : R2 := fun x y H Q => ((rI CMulW (fun i j => .int (i * j)) x y H Q ∨ rRep x y H Q) ∨ rRepT K x y H Q) ∨ rRep0 K x y H Q
theorem mul_sound : OpS c (rMul c.K) mulD := by
  refine ⟨fun y => by cases y <;> rfl, fun x => by cases x <;> rfl, fun {F H x y dx dy A B d Q} e rx ry eg q => ?_⟩
  cases dx <;> first | (cases eg; done) | skip
  case int =>
    cases dy <;> first | (cases eg; done) | skip
    rename_i i j
    have eg : (if mulC i j then some (D.int (i * j)) else none) = some d := eg
    split at eg <;> cases eg
    rename_i hl
    obtain ⟨rfl, _⟩ := rx
    obtain ⟨rfl, _⟩ := ry
    have hl' : i.natAbs.log2 + j.natAbs.log2 < 1000000 := of_decide_eq_true hl
    exact .inl (.inl (.inl ⟨_, _, rfl, rfl, hl', q _ _ _ [] (Grow.refl e) rel_int⟩))
  case tup xs =>
    cases dy <;> first | (cases eg; done) | skip
    rename_i k
    have eg : (if D.pls xs && decide (-1000000 ≤ k) && decide (k ≤ 1000) && decide (xs.length ≤ 1000) then some (D.tup (List.replicate k.toNat xs).flatten) else none) = some d := eg
    split at eg <;> cases eg
    rename_i hl
    simp only [Bool.and_eq_true, decide_eq_true_eq] at hl
    obtain ⟨⟨⟨p1, h2⟩, h3⟩, h4⟩ := hl
    obtain ⟨p, vs, rfl, s1, r1⟩ := rx
    obtain ⟨rfl, _⟩ := ry
    have z1 := r1.pl_nil p1
    subst z1
    by_cases hk : xs = [] ∨ k ≤ 1
    · refine .inr ⟨p, k, vs, rfl, rfl, sqT_sub e s1, h2, h3, hk.imp (fun z => (vs_nil r1).mpr z) id, fun z => ?_, fun z l hn => ?_⟩
      · have ex : (List.replicate k.toNat xs).flatten = xs := by
          rcases z with z | z
          · have z' := (vs_nil r1).mp z
            subst z'
            simp
          · subst z
            simp
        rw [ex] at q
        exact q _ _ _ [] (Grow.refl e) ⟨p, vs, rfl, s1, r1⟩
      · have hk0 : k.toNat = 0 := by
          have h5 : ¬ k = 1 := fun z2 => z (.inr z2)
          rcases hk with z2 | z2
          · exact absurd (.inl ((vs_nil r1).mpr z2)) z
          · omega
        rw [hk0, List.replicate_zero, List.flatten_nil] at q
        obtain ⟨g, r⟩ := rel_newT e (Rels.nil (c := c)) hn
        exact q _ _ _ [] g r
    · refine .inl (.inr ⟨p, k, vs, rfl, rfl, sqT_sub e s1, fun z => hk (.inl ((vs_nil r1).mp z)), by
        have : ¬ k ≤ 1 := fun z => hk (.inr z)
        omega, h3, by rw [r1.length]; exact h4, fun l hn => ?_⟩)
      obtain ⟨g, r⟩ := rel_newT e (rels_rep r1 k.toNat) hn
      exact q _ _ _ [] g r
  case lst o xs =>
    cases dy <;> first | (cases eg; done) | skip
    rename_i k
    have eg : (if D.pls xs && decide (-1000 ≤ k) && decide (k ≤ 10000) && decide (xs.length * k.toNat ≤ 100000) then some (D.lst true (List.replicate k.toNat xs).flatten) else none) = some d := eg
    split at eg <;> cases eg
    rename_i hl
    simp only [Bool.and_eq_true, decide_eq_true_eq] at hl
    obtain ⟨⟨⟨p1, h1⟩, h2⟩, h3⟩ := hl
    obtain ⟨p, vs, B1, rfl, s1, r1, _⟩ := rel_lst e rx
    obtain ⟨rfl, _⟩ := ry
    have z1 := r1.pl_nil p1
    subst z1
    refine .inl (.inl (.inr ⟨p, k, vs, rfl, rfl, s1, by omega, by omega, size_ok (by rw [r1.length]; exact h3), fun l hn => ?_⟩))
    obtain ⟨g, r⟩ := rel_new e (rels_rep r1 k.toNat) hn
    exact q _ _ _ [l] g r
theorem t_mul (hK : c.K = X.K) (ha : Tr X c a f1) (hb : Tr X c b f2) : Tr X c (.BinOp a .Mult b pos) (bin mulD f1 f2) :=
  t_bin (r := rMul c.K) (by rw [hK]; exact ((op_mulW.or op_rep).or op_repT).or op_rep0) mul_sound ha hb

/-! ### == -/
mutual
def D.py : D → Option PyData
  | .non => some .none
  | .bl b => some (.bool b)
  | .int i => some (.int i)
  | .str s => some (.str s)
  | .tup ds => (D.pys ds).map .tuple
  | .lst _ ds => (D.pys ds).map .list
  | _ => none
def D.pys : List D → Option (List PyData)
  | [] => some []
  | d :: ds => match d.py, D.pys ds with
    | some x, some xs => some (x :: xs)
    | _, _ => none
end
mutual
theorem Rel.dp {F H : Hp} (e : ∀ b o, F b = some o → H b = some o) : ∀ {d : D} {v : V} {A : List Addr} {q : PyData}, Rel c F H d v A → d.py = some q → Dp c.K H v q
  | .un, v, A, q, h, k => h.elim
  | .non, v, A, q, h, k => by obtain ⟨rfl, _⟩ := h; cases k; exact .non
  | .bl _, v, A, q, h, k => by obtain ⟨rfl, _⟩ := h; cases k; exact .bl _
  | .int _, v, A, q, h, k => by obtain ⟨rfl, _⟩ := h; cases k; exact .int _
  | .str _, v, A, q, h, k => by obtain ⟨rfl, _⟩ := h; cases k; exact .str _
  | .tup ds, v, A, q, h, k => by
    obtain ⟨p, vs, rfl, h2, r⟩ := h
    rw [D.py] at k
    cases e1 : D.pys ds with
    | none => rw [e1] at k; cases k
    | some qs =>
      rw [e1] at k
      cases k
      exact .tup (sqT_mono e h2) (Rels.dp e r e1)
  | .lst true ds, v, A, q, h, k => by
    obtain ⟨p, vs, B, rfl, h1, h2, h3, r⟩ := h
    rw [D.py] at k
    cases e1 : D.pys ds with
    | none => rw [e1] at k; cases k
    | some qs =>
      rw [e1] at k
      cases k
      exact .lst (.inl (.inl h1)) (Rels.dp e r e1)
  | .lst false ds, v, A, q, h, k => by
    obtain ⟨p, vs, rfl, h1, h3, r⟩ := h
    rw [D.py] at k
    cases e1 : D.pys ds with
    | none => rw [e1] at k; cases k
    | some qs =>
      rw [e1] at k
      cases k
      exact .lst (.inl (.inl (e _ _ h1))) (Rels.dp e r e1)
  | .dct true ks ds, v, A, q, h, k => by cases k
  | .dct false ks ds, v, A, q, h, k => by cases k
  | .scr _, v, A, q, h, k => by cases k
  | .tok _, v, A, q, h, k => by cases k
  | .tex _ _, v, A, q, h, k => by cases k
theorem Rels.dp {F H : Hp} (e : ∀ b o, F b = some o → H b = some o) : ∀ {ds : List D} {vs : List V} {A : List Addr} {qs : List PyData}, Rels c F H ds vs A → D.pys ds = some qs → DpAll c.K H vs qs
  | [], vs, A, q, h, k => by obtain ⟨rfl, _⟩ := h; cases k; exact .nil
  | d :: ds, vs, A, q, h, k => by
    obtain ⟨v, us, B, C, rfl, _, h1, h2⟩ := h
    rw [D.pys] at k
    cases e1 : d.py with
    | none => rw [e1] at k; cases k
    | some x =>
      cases e2 : D.pys ds with
      | none => rw [e1, e2] at k; cases k
      | some xs =>
        rw [e1, e2] at k
        cases k
        exact .cons (Rel.dp e h1 e1) (Rels.dp e h2 e2)
end
def deepB (a b : D) : Option Bool := match a.py, b.py with
  | some x, some y => if SeqAt.shaped x && SeqAt.shaped y then some (PyData.eqv x y) else none
  | _, _ => none
def eqB (a b : D) : Option Bool := match a, b with
  | .int i, .int j => some (decide (i = j))
  | .str i, .str j => some (decide (i = j))
  | .lst _ xs, .lst _ ys => if xs.length = ys.length then deepB a b else some false
  | _, _ => deepB a b
def eqD (a b : D) : Option D := (eqB a b).map .bl
def neD (a b : D) : Option D := (eqB a b).map fun k => .bl (!k)
/-- lists of unlike lengths -/
def rLen (k : Bool) : R2 := fun x y H Q => ∃ a b xs ys, x = .ref a ∧ y = .ref b ∧ H a = some (.lst xs) ∧ H b = some (.lst ys) ∧ xs.length ≠ ys.length ∧ Q (.bl k) H
theorem PlainL.isList {h : Heap} {a : Addr} {its : Array Value} (p : PlainL h a its) : h.IsList a its := by
  obtain ⟨o, n, h1, h2, _, h4⟩ := p
  exact ⟨o, h1, h2, n, h4⟩
theorem op_eqLen (hu : X.A.units < cLine) : OpR X (compareOp .Eq) (rLen false) := by
  intro pins s σ H x y v u Q I rx ry h
  obtain ⟨a, b, xs, ys, rfl, rfl, h1, h2, hl, q⟩ := h
  cases rx
  cases ry
  obtain ⟨i1, r1, p1, z1⟩ := I.list (a := a) (xs := xs) (.inl (.inl h1))
  obtain ⟨i2, r2, p2, z2⟩ := I.list (a := b) (xs := ys) (.inl (.inl h2))
  refine SeqAt.eq_list_lengthsAt (PlainL.isList p1) (PlainL.isList p2) ?_ hu ⟨.bl false, H, I, rfl, q⟩
  have e1 := r1.length
  have e2 := r2.length
  simp
  omega
theorem op_neLen (hu : X.A.units < cLine) : OpR X (compareOp .NotEq) (rLen true) := by
  intro pins s σ H x y v u Q I rx ry h
  obtain ⟨a, b, xs, ys, rfl, rfl, h1, h2, hl, q⟩ := h
  cases rx
  cases ry
  obtain ⟨i1, r1, p1, z1⟩ := I.list (a := a) (xs := xs) (.inl (.inl h1))
  obtain ⟨i2, r2, p2, z2⟩ := I.list (a := b) (xs := ys) (.inl (.inl h2))
  refine SeqAt.RcNeAt.lists_lengths (PlainL.isList p1) (PlainL.isList p2) ?_ hu X.prog X.w _ _ ⟨.bl true, H, I, rfl, q⟩
  have e1 := r1.length
  have e2 := r2.length
  simp
  omega
def rEqA (K : PySem.W.Frag) : R2 := fun x y H Q => (rEq x y H Q ∨ rEqD K x y H Q) ∨ rLen false x y H Q
def rNeA (K : PySem.W.Frag) : R2 := fun x y H Q => (rNe x y H Q ∨ rNeD K x y H Q) ∨ rLen true x y H Q
theorem deep_py {a b : D} {k : Bool} (h : deepB a b = some k) : ∃ x y, a.py = some x ∧ b.py = some y ∧ SeqAt.shaped x = true ∧ SeqAt.shaped y = true ∧ k = PyData.eqv x y := by
  unfold deepB at h
  cases e1 : a.py with
  | none => rw [e1] at h; cases h
  | some x =>
    cases e2 : b.py with
    | none => rw [e1, e2] at h; cases h
    | some y =>
      rw [e1, e2] at h
      have h : (if SeqAt.shaped x && SeqAt.shaped y then some (PyData.eqv x y) else none) = some k := h
      split at h <;> cases h
      rename_i hs
      rw [Bool.and_eq_true] at hs
      exact ⟨x, y, rfl, rfl, hs.1, hs.2, rfl⟩
theorem eqB_un1 (b : D) : eqB .un b = none := by cases b <;> rfl
theorem eqB_un2 (a : D) : eqB a .un = none := by
  have z : ∀ a : D, deepB a .un = none := fun a => by
    unfold deepB
    cases a.py <;> rfl
  cases a <;> (simp only [eqB]; exact z _)
theorem eqB_cases {a b : D} {k : Bool} (h : eqB a b = some k) : (∃ i j, a = .int i ∧ b = .int j ∧ k = decide (i = j)) ∨ (∃ i j, a = .str i ∧ b = .str j ∧ k = decide (i = j)) ∨ deepB a b = some k ∨ ∃ o p xs ys, a = .lst o xs ∧ b = .lst p ys ∧ xs.length ≠ ys.length ∧ k = false := by
  unfold eqB at h
  split at h
  · cases h
    exact .inl ⟨_, _, rfl, rfl, rfl⟩
  · cases h
    exact .inr (.inl ⟨_, _, rfl, rfl, rfl⟩)
  · split at h
    · exact .inr (.inr (.inl h))
    · cases h
      rename_i hl
      exact .inr (.inr (.inr ⟨_, _, _, _, rfl, rfl, hl, rfl⟩))
  · exact .inr (.inr (.inl h))
theorem eq_core {F H : Hp} {x y : V} {dx dy : D} {A B : List Addr} {k : Bool} (e : ∀ b o, F b = some o → H b = some o) (rx : Rel c F H dx x A) (ry : Rel c F H dy y B) (h : eqB dx dy = some k) :
    (scal x y = true ∧ k = decide (x = y)) ∨ (∃ d q, Dp c.K H x d ∧ Dp c.K H y q ∧ SeqAt.shaped d = true ∧ SeqAt.shaped q = true ∧ k = PyData.eqv d q) ∨
      ∃ a b xs ys, x = .ref a ∧ y = .ref b ∧ H a = some (.lst xs) ∧ H b = some (.lst ys) ∧ xs.length ≠ ys.length ∧ k = false := by
  rcases eqB_cases h with ⟨i, j, rfl, rfl, rfl⟩ | ⟨i, j, rfl, rfl, rfl⟩ | h | ⟨o, p, xs, ys, rfl, rfl, hl, rfl⟩
  · obtain ⟨rfl, _⟩ := rx
    obtain ⟨rfl, _⟩ := ry
    refine .inl ⟨rfl, ?_⟩
    by_cases z : i = j
    · subst z; simp
    · rw [decide_eq_false z, decide_eq_false (fun q => z (V.int.inj q))]
  · obtain ⟨rfl, _⟩ := rx
    obtain ⟨rfl, _⟩ := ry
    refine .inl ⟨rfl, ?_⟩
    by_cases z : i = j
    · subst z; simp
    · rw [decide_eq_false z, decide_eq_false (fun q => z (V.str.inj q))]
  · obtain ⟨q1, q2, h1, h2, s1, s2, rfl⟩ := deep_py h
    exact .inr (.inl ⟨q1, q2, rx.dp e h1, ry.dp e h2, s1, s2, rfl⟩)
  · obtain ⟨p1, vs, B1, rfl, m1, r1, _⟩ := rel_lst e rx
    obtain ⟨p2, ws, B2, rfl, m2, r2, _⟩ := rel_lst e ry
    exact .inr (.inr ⟨p1, p2, vs, ws, rfl, rfl, m1, m2, by rw [r1.length, r2.length]; exact hl, rfl⟩)
theorem eq_sound : OpS c (rEqA c.K) eqD := by
  refine ⟨fun y => by unfold eqD; rw [eqB_un1]; rfl, fun x => by unfold eqD; rw [eqB_un2]; rfl, fun {F H x y dx dy A B d Q} e rx ry eg q => ?_⟩
  unfold eqD at eg
  cases h : eqB dx dy with
  | none => rw [h] at eg; cases eg
  | some k =>
    rw [h] at eg
    cases eg
    have q' := q (.bl k) F H [] (Grow.refl e) rel_bl
    rcases eq_core e rx ry h with ⟨h1, rfl⟩ | ⟨q1, q2, h1, h2, h3, h4, rfl⟩ | ⟨a, b, xs, ys, h1, h2, h3, h4, h5, rfl⟩
    · exact .inl (.inl ⟨h1, q'⟩)
    · exact .inl (.inr ⟨q1, q2, h1, h2, h3, h4, q'⟩)
    · exact .inr ⟨a, b, xs, ys, h1, h2, h3, h4, h5, q'⟩
theorem ne_sound : OpS c (rNeA c.K) neD := by
  refine ⟨fun y => by unfold neD; rw [eqB_un1]; rfl, fun x => by unfold neD; rw [eqB_un2]; rfl, fun {F H x y dx dy A B d Q} e rx ry eg q => ?_⟩
  unfold neD at eg
  cases h : eqB dx dy with
  | none => rw [h] at eg; cases eg
  | some k =>
    rw [h] at eg
    cases eg
    have q' := q (.bl (!k)) F H [] (Grow.refl e) rel_bl
    rcases eq_core e rx ry h with ⟨h1, rfl⟩ | ⟨q1, q2, h1, h2, h3, h4, rfl⟩ | ⟨a, b, xs, ys, h1, h2, h3, h4, h5, rfl⟩
    · exact .inl (.inl ⟨h1, q'⟩)
    · exact .inl (.inr ⟨q1, q2, h1, h2, h3, h4, q'⟩)
    · exact .inr ⟨a, b, xs, ys, h1, h2, h3, h4, h5, q'⟩
theorem t_eq (hK : c.K = X.K) (hu : X.A.units + 64 < cLine) (ha : Tr X c a f1) (hb : Tr X c b f2) : Tr X c (.Compare a [.Eq] [b] pos) (bin eqD f1 f2) :=
  t_cmp (r := rEqA c.K) (by rw [hK]; exact (op_eq.or (op_eqD hu)).or (op_eqLen (by omega))) eq_sound ha hb
theorem t_ne (hK : c.K = X.K) (hu : X.A.units + 64 < cLine) (ha : Tr X c a f1) (hb : Tr X c b f2) : Tr X c (.Compare a [.NotEq] [b] pos) (bin neD f1 f2) :=
  t_cmp (r := rNeA c.K) (by rw [hK]; exact (op_ne.or (op_neD hu)).or (op_neLen (by omega))) ne_sound ha hb

/-! ### is None -/
def isNB : D → Option Bool
  | .un => none
  | .non => some true
  | .scr _ => none
  | .tok _ => none
  | .tex _ _ => none
  | _ => some false
def isND : D → D → Option D
  | a, .non => (isNB a).map .bl
  | _, _ => none
def notND : D → D → Option D
  | a, .non => (isNB a).map fun k => .bl (!k)
  | _, _ => none
theorem isN_core {F H : Hp} {x : V} {dx : D} {A : List Addr} {k : Bool} (rx : Rel c F H dx x A) (h : isNB dx = some k) : k = decide (x = .non) := by
  cases dx <;> first | (cases h; done) | skip
  · cases h; obtain ⟨rfl, _⟩ := rx; rfl
  · cases h; obtain ⟨rfl, _⟩ := rx; rfl
  · cases h; obtain ⟨rfl, _⟩ := rx; rfl
  · cases h; obtain ⟨rfl, _⟩ := rx; rfl
  · cases h; obtain ⟨p, vs, rfl, _⟩ := rx; rfl
  · rename_i o ds
    cases h
    cases o
    · obtain ⟨p, vs, rfl, _⟩ := rx; rfl
    · obtain ⟨p, vs, B, rfl, _⟩ := rx; rfl
  · rename_i o ks ds
    cases h
    cases o
    · obtain ⟨p, vs, rfl, _⟩ := rx; rfl
    · obtain ⟨p, vs, B, rfl, _⟩ := rx; rfl
theorem isN_sound : OpS c (fun x y H Q => y = .non ∧ Q (.bl (decide (x = .non))) H) isND := by
  refine ⟨fun y => by cases y <;> rfl, fun x => rfl, fun {F H x y dx dy A B d Q} e rx ry eg q => ?_⟩
  cases dy <;> first | (cases eg; done) | skip
  obtain ⟨rfl, _⟩ := ry
  have eg : (isNB dx).map D.bl = some d := eg
  cases h : isNB dx with
  | none => rw [h] at eg; cases eg
  | some k =>
    rw [h] at eg
    cases eg
    refine ⟨rfl, ?_⟩
    rw [← isN_core rx h]
    exact q _ _ _ [] (Grow.refl e) rel_bl
theorem notN_sound : OpS c (fun x y H Q => y = .non ∧ Q (.bl (!decide (x = .non))) H) notND := by
  refine ⟨fun y => by cases y <;> rfl, fun x => rfl, fun {F H x y dx dy A B d Q} e rx ry eg q => ?_⟩
  cases dy <;> first | (cases eg; done) | skip
  obtain ⟨rfl, _⟩ := ry
  have eg : (isNB dx).map (fun k => D.bl (!k)) = some d := eg
  cases h : isNB dx with
  | none => rw [h] at eg; cases eg
  | some k =>
    rw [h] at eg
    cases eg
    refine ⟨rfl, ?_⟩
    rw [← isN_core rx h]
    exact q _ _ _ [] (Grow.refl e) rel_bl
theorem t_isN (ha : Tr X c a f1) (hb : Tr X c b f2) : Tr X c (.Compare a [.Is] [b] pos) (bin isND f1 f2) := t_cmp op_isN isN_sound ha hb
theorem t_notN (ha : Tr X c a f1) (hb : Tr X c b f2) : Tr X c (.Compare a [.IsNot] [b] pos) (bin notND f1 f2) := t_cmp op_notN notN_sound ha hb
end
end Y
end

section
set_option Elab.async false
set_option linter.all false
set_option maxRecDepth 100000
set_option maxHeartbeats 4000000
/-! Y3: tests, displays, subscripts, slices, built-in functions. -/
namespace Y
open PySem PySem.Spec PyProof.Rows L2

section
variable {X : Cx} {c : Ctx} {a b e : Expr} {rest es : List Expr} {f f1 f2 f3 : Den Hdl} {p1 p2 p3 : Den Bool} {pos : Pos}
/-! ### tests -/
def tst (f : Den Hdl) : Den Bool := fun τ => (f τ).bind fun h τ1 => match h.get τ1 with
  | .bl b => .ok b τ1
  | _ => .bad
def andT (p1 p2 : Den Bool) : Den Bool := fun τ => (p1 τ).bind fun b τ1 => if b = true then p2 τ1 else .ok false τ1
def orT (p1 p2 : Den Bool) : Den Bool := fun τ => (p1 τ).bind fun b τ1 => if b = true then .ok true τ1 else p2 τ1
def notT (p1 : Den Bool) : Den Bool := fun τ => (p1 τ).bind fun b τ1 => .ok (!b) τ1
theorem tst_sound {W : WX} {σ : L2.St} {H : Hp} {Q : Bool → Hp → Prop} (h : tT c (tst f) W σ H Q) : tE c f W σ H fun x H' => ∃ k, x = .bl k ∧ Q k H' := by
  obtain ⟨τ, F, S, sa, h⟩ := h
  refine ⟨τ, F, S, sa, ?_⟩
  unfold tst at h
  cases e1 : f τ with
  | bad => rw [e1] at h; exact h
  | ex n d τ' => rw [e1] at h; exact h
  | ok h1 τ1 =>
    rw [e1] at h
    intro v1 F1 H1 A1 S1 g1 sa1 r1 nd1
    have h : Post c (fun _ _ (a : Bool) b A => b = a ∧ A = []) W F H σ S Q (match h1.get τ1 with
      | .bl b => .ok b τ1
      | _ => .bad) := h
    rcases r1.get sa1 with z | ⟨B1, q1⟩
    · rw [z] at h; exact h.elim
    · cases eg : h1.get τ1 <;> rw [eg] at h q1 <;> first | exact h.elim | skip
      obtain ⟨rfl, _⟩ := q1
      exact ⟨_, rfl, h _ F1 H1 [] S1 (Go.less g1 fun b hb => List.mem_append_right _ hb) sa1 ⟨rfl, rfl⟩ sa1.nd⟩
theorem tt_val (ha : Tr X c e f) (he : ∀ whole, isTrue e X.env whole = (do let v ← whole; standAt e.pos; holding [v] (truthy v)) := by intro _; rfl) : TrT X c e (tst f) :=
  ⟨fun W tk => pt_mono (pt_val (ha.pe W tk) he) fun _ _ _ h => tst_sound h⟩
/-- the same for what isTrue treats apart (comparisons): by their own rule -/
theorem tt_cmp {op : CmpOp} {r : R2} {g : D → D → Option D} (ho : OpR X (compareOp op) r) (hs : OpS c r g) (ha : Tr X c a f1) (hb : Tr X c b f2) (hm : behindInMarks op b = false := by first | exact nomark _ | rfl) :
    TrT X c (.Compare a [op] [b] pos) (tst (bin g f1 f2)) :=
  ⟨fun W tk => pt_mono (pt_cmpR ho (ha.pe W tk) (hb.pe W tk) hm) fun σ H Q h => by
    have q := tst_sound h
    exact bin_sound hs q⟩
theorem andT_sound {W : WX} {σ : L2.St} {H : Hp} {Q : Bool → Hp → Prop} (h : tT c (andT p1 p2) W σ H Q) : tAnd (tT c p1 W) (tT c p2 W) σ H Q := by
  obtain ⟨τ, F, S, sa, h⟩ := h
  refine ⟨τ, F, S, sa, ?_⟩
  unfold andT at h
  cases e1 : p1 τ with
  | bad => rw [e1] at h; exact h
  | ex n d τ' => rw [e1] at h; exact h
  | ok k τ1 =>
    rw [e1] at h
    intro v1 F1 H1 A1 S1 g1 sa1 r1 nd1
    obtain ⟨rfl, rfl⟩ := r1
    cases v1 with
    | true => exact iteT ⟨τ1, F1, S1, sa1, Post.step (A := []) g1 h⟩
    | false =>
      refine iteF ?_
      exact (show Post c (fun _ _ (a : Bool) b A => b = a ∧ A = []) W F H σ S Q (.ok false τ1) from h) _ F1 H1 [] S1 g1 sa1 ⟨rfl, rfl⟩ sa1.nd
theorem orT_sound {W : WX} {σ : L2.St} {H : Hp} {Q : Bool → Hp → Prop} (h : tT c (orT p1 p2) W σ H Q) : tOr (tT c p1 W) (tT c p2 W) σ H Q := by
  obtain ⟨τ, F, S, sa, h⟩ := h
  refine ⟨τ, F, S, sa, ?_⟩
  unfold orT at h
  cases e1 : p1 τ with
  | bad => rw [e1] at h; exact h
  | ex n d τ' => rw [e1] at h; exact h
  | ok k τ1 =>
    rw [e1] at h
    intro v1 F1 H1 A1 S1 g1 sa1 r1 nd1
    obtain ⟨rfl, rfl⟩ := r1
    cases v1 with
    | false => exact iteF ⟨τ1, F1, S1, sa1, Post.step (A := []) g1 h⟩
    | true =>
      refine iteT ?_
      exact (show Post c (fun _ _ (a : Bool) b A => b = a ∧ A = []) W F H σ S Q (.ok true τ1) from h) _ F1 H1 [] S1 g1 sa1 ⟨rfl, rfl⟩ sa1.nd
structure TrW (X : Cx) (c : Ctx) (e : Expr) (f : Den Bool) : Prop where
  pw : ∀ W, L2N.Takes X W → PW X e (tT c f W)
theorem pw_mono {t t' : TT} (h : PW X e t) (k : ∀ σ H Q, t' σ H Q → t σ H Q) : PW X e t' := ⟨fun w pins s σ H Q I q => h.run w pins s σ H Q I (k σ H Q q)⟩
theorem TrW.t (h : TrW X c e p1) : TrT X c e p1 := ⟨fun W tk => (h.pw W tk).pt⟩
theorem tw_and1 (ha : TrT X c a p1) : TrW X c (.BoolOp .And [a] pos) p1 := ⟨fun W tk => pw_and1 (ha.pt W tk)⟩
theorem tw_or1 (ha : TrT X c a p1) : TrW X c (.BoolOp .Or [a] pos) p1 := ⟨fun W tk => pw_or1 (ha.pt W tk)⟩
theorem tw_and (ha : TrT X c a p1) (hb : TrW X c (.BoolOp .And (b :: rest) pos) p2) : TrW X c (.BoolOp .And (a :: b :: rest) pos) (andT p1 p2) :=
  ⟨fun W tk => pw_mono (pw_and (ha.pt W tk) (hb.pw W tk)) fun _ _ _ h => andT_sound h⟩
theorem tw_or (ha : TrT X c a p1) (hb : TrW X c (.BoolOp .Or (b :: rest) pos) p2) : TrW X c (.BoolOp .Or (a :: b :: rest) pos) (orT p1 p2) :=
  ⟨fun W tk => pw_mono (pw_or (ha.pt W tk) (hb.pw W tk)) fun _ _ _ h => orT_sound h⟩
theorem tt_not (ha : TrT X c a p1) : TrT X c (.UnaryOp .Not a pos) (notT p1) := by
  refine ⟨fun W tk => pt_mono (pt_not (ha.pt W tk)) fun σ H Q h => ?_⟩
  obtain ⟨τ, F, S, sa, h⟩ := h
  refine ⟨τ, F, S, sa, ?_⟩
  unfold notT at h
  cases e1 : p1 τ with
  | bad => rw [e1] at h; exact h
  | ex n d τ' => rw [e1] at h; exact h
  | ok k τ1 =>
    rw [e1] at h
    intro v1 F1 H1 A1 S1 g1 sa1 r1 nd1
    obtain ⟨rfl, rfl⟩ := r1
    exact (show Post c (fun _ _ (a : Bool) b A => b = a ∧ A = []) W F H σ S Q (.ok (!v1) τ1) from h) _ F1 H1 [] S1 g1 sa1 ⟨rfl, rfl⟩ sa1.nd

/-! ### and, or, not, if as values (truths) -/
def blOf : Hdl → List D → Option Bool := fun h τ => match h.get τ with
  | .bl b => some b
  | _ => none
def andV (f1 f2 : Den Hdl) : Den Hdl := fun τ => (tst f1 τ).bind fun b τ1 => if b = true then f2 τ1 else .ok (.val (.bl false)) τ1
def orV (f1 f2 : Den Hdl) : Den Hdl := fun τ => (tst f1 τ).bind fun b τ1 => if b = true then .ok (.val (.bl true)) τ1 else f2 τ1
def notV (f1 : Den Hdl) : Den Hdl := fun τ => (tst f1 τ).bind fun b τ1 => .ok (.val (.bl (!b))) τ1
theorem bindT_sound {W : WX} {σ : L2.St} {H : Hp} {Q : VK} {k : Bool → List D → Rz Hdl} (h : tE c (fun τ => (tst f1 τ).bind k) W σ H Q) :
    tE c f1 W σ H fun x H1 => ∃ b, x = .bl b ∧ ∃ τ1 F1 S1, SA c F1 H1 σ τ1 S1 ∧ Post c (fun F H => RelH c F H σ) W F1 H1 σ S1 Q (k b τ1) := by
  refine tst_sound (c := c) (f := f1) (W := W) (Q := fun b H1 => ∃ τ1 F1 S1, SA c F1 H1 σ τ1 S1 ∧ Post c (fun F H => RelH c F H σ) W F1 H1 σ S1 Q (k b τ1)) ?_
  obtain ⟨τ, F, S, sa, h⟩ := h
  refine ⟨τ, F, S, sa, ?_⟩
  have h : Post c (fun F H => RelH c F H σ) W F H σ S Q ((tst f1 τ).bind k) := h
  cases e1 : tst f1 τ with
  | bad => rw [e1] at h; exact h
  | ex n d τ' => rw [e1] at h; exact h
  | ok b τ1 =>
    rw [e1] at h
    intro v1 F1 H1 A1 S1 g1 sa1 r1 nd1
    obtain ⟨rfl, rfl⟩ := r1
    exact ⟨τ1, F1, S1, sa1, Post.step (A := []) g1 h⟩
theorem t_one {op} (h : Tr X c a f) : Tr X c (.BoolOp op [a] pos) f := ⟨fun W tk => pe_one (h.pe W tk)⟩
theorem t_and (ha : Tr X c a f1) (hb : Tr X c (.BoolOp .And (b :: rest) pos) f2) : Tr X c (.BoolOp .And (a :: b :: rest) pos) (andV f1 f2) := by
  refine ⟨fun W tk => pe_mono (pe_and (ha.pe W tk) (hb.pe W tk)) fun σ H Q h => ?_⟩
  obtain ⟨τ, F, S, sa, h⟩ := bindT_sound h
  refine ⟨τ, F, S, sa, ?_⟩
  cases e1 : f1 τ with
  | bad => rw [e1] at h; exact h
  | ex n d τ' => rw [e1] at h; exact h
  | ok h1 τ1 =>
    rw [e1] at h
    intro v1 F1 H1 A1 S1 g1 sa1 r1 nd1
    obtain ⟨b, rfl, τ2, F2, S2, sa2, h2⟩ := h v1 F1 H1 A1 S1 g1 sa1 r1 nd1
    refine ⟨b, rfl, ?_⟩
    cases b with
    | true => exact iteT ⟨τ2, F2, S2, sa2, h2⟩
    | false => exact iteF (Post.grow (a := Hdl.val (.bl false)) sa2 h2 (Grow.refl sa2.ex) (show Rel c F2 H1 (.bl false) (.bl false) [] from ⟨rfl, rfl⟩))
theorem t_or (ha : Tr X c a f1) (hb : Tr X c (.BoolOp .Or (b :: rest) pos) f2) : Tr X c (.BoolOp .Or (a :: b :: rest) pos) (orV f1 f2) := by
  refine ⟨fun W tk => pe_mono (pe_or (ha.pe W tk) (hb.pe W tk)) fun σ H Q h => ?_⟩
  obtain ⟨τ, F, S, sa, h⟩ := bindT_sound h
  refine ⟨τ, F, S, sa, ?_⟩
  cases e1 : f1 τ with
  | bad => rw [e1] at h; exact h
  | ex n d τ' => rw [e1] at h; exact h
  | ok h1 τ1 =>
    rw [e1] at h
    intro v1 F1 H1 A1 S1 g1 sa1 r1 nd1
    obtain ⟨b, rfl, τ2, F2, S2, sa2, h2⟩ := h v1 F1 H1 A1 S1 g1 sa1 r1 nd1
    refine ⟨b, rfl, ?_⟩
    cases b with
    | false => exact iteF ⟨τ2, F2, S2, sa2, h2⟩
    | true => exact iteT (Post.grow (a := Hdl.val (.bl true)) sa2 h2 (Grow.refl sa2.ex) (show Rel c F2 H1 (.bl true) (.bl true) [] from ⟨rfl, rfl⟩))
theorem t_not (ha : Tr X c a f1) : Tr X c (.UnaryOp .Not a pos) (notV f1) := by
  refine ⟨fun W tk => pe_mono (pe_not (ha.pe W tk)) fun σ H Q h => ?_⟩
  obtain ⟨τ, F, S, sa, h⟩ := bindT_sound h
  refine ⟨τ, F, S, sa, ?_⟩
  cases e1 : f1 τ with
  | bad => rw [e1] at h; exact h
  | ex n d τ' => rw [e1] at h; exact h
  | ok h1 τ1 =>
    rw [e1] at h
    intro v1 F1 H1 A1 S1 g1 sa1 r1 nd1
    obtain ⟨b, rfl, τ2, F2, S2, sa2, h2⟩ := h v1 F1 H1 A1 S1 g1 sa1 r1 nd1
    exact ⟨b, rfl, Post.grow (a := Hdl.val (.bl (!b))) sa2 h2 (Grow.refl sa2.ex) (show Rel c F2 H1 (.bl (!b)) (.bl (!b)) [] from ⟨rfl, rfl⟩)⟩
def ifE (p : Den Bool) (f1 f2 : Den Hdl) : Den Hdl := fun τ => (p τ).bind fun b τ1 => if b = true then f1 τ1 else f2 τ1
theorem t_if (hp : TrT X c e p1) (ha : Tr X c a f1) (hb : Tr X c b f2) : Tr X c (.IfExp e a b pos) (ifE p1 f1 f2) := by
  refine ⟨fun W tk => pe_mono (pe_ifExp (hp.pt W tk) (ha.pe W tk) (hb.pe W tk)) fun σ H Q h => ?_⟩
  obtain ⟨τ, F, S, sa, h⟩ := h
  refine ⟨τ, F, S, sa, ?_⟩
  unfold ifE at h
  cases e1 : p1 τ with
  | bad => rw [e1] at h; exact h
  | ex n d τ' => rw [e1] at h; exact h
  | ok k τ1 =>
    rw [e1] at h
    intro v1 F1 H1 A1 S1 g1 sa1 r1 nd1
    obtain ⟨rfl, rfl⟩ := r1
    cases v1 with
    | true => exact iteT ⟨τ1, F1, S1, sa1, Post.step (A := []) g1 h⟩
    | false => exact iteF ⟨τ1, F1, S1, sa1, Post.step (A := []) g1 h⟩

/-! ### a < b < c -/
def chn (g1 g2 : D → D → Option D) (f1 f2 f3 : Den Hdl) : Den Hdl := fun τ => (f1 τ).bind fun h1 τ1 => (f2 τ1).bind fun h2 τ2 => match g1 (h1.get τ2) (h2.get τ2) with
  | some (.bl true) => (f3 τ2).bind fun h3 τ3 => match g2 (h2.get τ3) (h3.get τ3) with
    | some d => .ok (.val d) τ3
    | none => .bad
  | some (.bl false) => .ok (.val (.bl false)) τ2
  | _ => .bad
theorem chn_sound {r1 r2 : R2} {g1 g2 : D → D → Option D} {W : WX} (hs1 : OpS c r1 g1) (hs2 : OpS c r2 g2) {σ : L2.St} {H : Hp} {Q : VK} (h : tE c (chn g1 g2 f1 f2 f3) W σ H Q) :
    tChain r1 r2 (tE c f1 W) (tE c f2 W) (tE c f3 W) σ H Q := by
  obtain ⟨τ, F, S, sa, h⟩ := h
  refine ⟨τ, F, S, sa, ?_⟩
  unfold chn at h
  cases e1 : f1 τ with
  | bad => rw [e1] at h; exact h
  | ex n d τ' => rw [e1] at h; exact h
  | ok h1 τ1 =>
    rw [e1] at h
    intro v1 F1 H1 A1 S1 go1 sa1 q1 nd1
    refine ⟨τ1, F1, S1, sa1, ?_⟩
    have h : Post c (fun F H => RelH c F H σ) W F H σ S Q ((f2 τ1).bind fun h2 τ2 => match g1 (h1.get τ2) (h2.get τ2) with
      | some (.bl true) => (f3 τ2).bind fun h3 τ3 => match g2 (h2.get τ3) (h3.get τ3) with
        | some d => .ok (.val d) τ3
        | none => .bad
      | some (.bl false) => .ok (.val (.bl false)) τ2
      | _ => .bad) := h
    cases e2 : f2 τ1 with
    | bad => rw [e2] at h; exact h
    | ex n d τ' =>
      rw [e2] at h
      exact Post.step (α := Hdl) (β := V) (R := fun F H => RelH c F H σ) (Q := Q) (r := .ex n d τ') go1 h
    | ok h2 τ2 =>
      rw [e2] at h
      intro v2 F2 H2 A2 S2 go2 sa2 q2 nd2
      have h : Post c (fun F H => RelH c F H σ) W F H σ S Q (match g1 (h1.get τ2) (h2.get τ2) with
        | some (.bl true) => (f3 τ2).bind fun h3 τ3 => match g2 (h2.get τ3) (h3.get τ3) with
          | some d => .ok (.val d) τ3
          | none => .bad
        | some (.bl false) => .ok (.val (.bl false)) τ2
        | _ => .bad) := h
      have q1' := q1.hand go2 nd1
      have go := Go.less (Go.trans go1 go2) (B := A2 ++ S2) fun b hb => List.mem_append_right _ hb
      cases eg : g1 (h1.get τ2) (h2.get τ2) with
      | none => rw [eg] at h; exact h.elim
      | some d =>
        rw [eg] at h
        rcases q1'.get sa2 with z | ⟨B1, w1⟩
        · rw [z, hs1.un1] at eg
          cases eg
        rcases q2.get sa2 with z | ⟨B2, w2⟩
        · rw [z, hs1.un2] at eg
          cases eg
        refine hs1.run sa2.ex w1 w2 eg fun v F3 H3 N gr rr => ?_
        obtain ⟨sa3, nd3⟩ := gr.sa sa2
        have go3 : Go F2 H2 (A2 ++ S2) F3 H3 (A2 ++ S2) := Go.less (gr.go _) fun b hb => List.mem_append_right _ hb
        have q2' : RelH c F3 H3 σ h2 v2 A2 := by
          cases h2 with
          | slot i => exact q2
          | val d' => exact gr.rel q2
        cases d <;> first | exact h.elim | skip
        rename_i k
        obtain ⟨rfl, rfl⟩ := rr
        refine ⟨k, rfl, ?_⟩
        cases k with
        | false =>
          refine iteF ?_
          exact (show Post c (fun F H => RelH c F H σ) W F H σ S Q (.ok (.val (.bl false)) τ2) from h) _ F3 H3 [] S2 (Go.less (Go.trans0 go go3) fun b hb => List.mem_append_right _ hb) sa3 (show Rel c F3 H3 (.bl false) (.bl false) [] from ⟨rfl, rfl⟩) sa3.nd
        | true =>
          refine iteT ⟨τ2, F3, S2, sa3, ?_⟩
          have h : Post c (fun F H => RelH c F H σ) W F H σ S Q ((f3 τ2).bind fun h3 τ3 => match g2 (h2.get τ3) (h3.get τ3) with
            | some d => .ok (.val d) τ3
            | none => .bad) := h
          have go23 := Go.trans0 go go3
          cases e3 : f3 τ2 with
          | bad => rw [e3] at h; exact h
          | ex n d τ' =>
            rw [e3] at h
            exact Post.step (α := Hdl) (β := V) (R := fun F H => RelH c F H σ) (Q := Q) (r := .ex n d τ') go23 h
          | ok h3 τ3 =>
            rw [e3] at h
            intro v3 F4 H4 A4 S4 go4 sa4 q4 nd4
            have h : Post c (fun F H => RelH c F H σ) W F H σ S Q (match g2 (h2.get τ3) (h3.get τ3) with
              | some d => .ok (.val d) τ3
              | none => .bad) := h
            have q2'' := q2'.hand go4 nd2
            have gof := Go.less (Go.trans go23 go4) (B := S4) fun b hb => List.mem_append_right _ (List.mem_append_right _ hb)
            cases eg2 : g2 (h2.get τ3) (h3.get τ3) with
            | none => rw [eg2] at h; exact h.elim
            | some d =>
              rw [eg2] at h
              rcases q2''.get sa4 with z | ⟨B3, w3⟩
              · rw [z, hs2.un1] at eg2
                cases eg2
              rcases q4.get sa4 with z | ⟨B4, w4⟩
              · rw [z, hs2.un2] at eg2
                cases eg2
              refine hs2.run sa4.ex w3 w4 eg2 fun v F5 H5 N5 gr5 rr5 => ?_
              obtain ⟨sa5, nd5⟩ := gr5.sa sa4
              exact h v F5 H5 N5 S4 (Go.trans0 gof (gr5.go S4)) sa5 rr5 nd5
theorem t_chain {op op' : CmpOp} {r r' : R2} {g g' : D → D → Option D} {cc : Expr} (ho : OpR X (compareOp op) r) (ho' : OpR X (compareOp op') r') (hs : OpS c r g) (hs' : OpS c r' g') (ha : Tr X c a f1) (hb : Tr X c b f2) (hc : Tr X c cc f3)
    (hm : lastMarks [op, op'] [b, cc] = false := by with_unfolding_all rfl) : Tr X c (.Compare a [op, op'] [b, cc] pos) (chn g g' f1 f2 f3) :=
  ⟨fun W tk => pe_mono (pe_chain ho ho' (ha.pe W tk) (hb.pe W tk) (hc.pe W tk) hm) fun _ _ _ h => chn_sound hs hs' h⟩
theorem tt_chain {op op' : CmpOp} {r r' : R2} {g g' : D → D → Option D} {cc : Expr} (ho : OpR X (compareOp op) r) (ho' : OpR X (compareOp op') r') (hs : OpS c r g) (hs' : OpS c r' g') (ha : Tr X c a f1) (hb : Tr X c b f2) (hc : Tr X c cc f3)
    (hm : lastMarks [op, op'] [b, cc] = false := by with_unfolding_all rfl) : TrT X c (.Compare a [op, op'] [b, cc] pos) (tst (chn g g' f1 f2 f3)) :=
  ⟨fun W tk => pt_mono (pt_chain ho ho' (ha.pe W tk) (hb.pe W tk) (hc.pe W tk) hm) fun σ H Q h => chn_sound hs hs' (tst_sound h)⟩
end
end Y
end

section
set_option Elab.async false
set_option linter.all false
set_option maxRecDepth 100000
set_option maxHeartbeats 4000000
/-! Y4: displays, subscripts, slices, built-in functions. -/
namespace Y
open PySem PySem.Spec PyProof.Rows L2

section
variable {X : Cx} {c : Ctx} {a b e : Expr} {rest es : List Expr} {f f1 f2 f3 : Den Hdl} {g : Den (List Hdl)} {pos : Pos}
/-! ### argument lists -/
def anil : Den (List Hdl) := fun τ => .ok [] τ
def acons (f : Den Hdl) (g : Den (List Hdl)) : Den (List Hdl) := fun τ => (f τ).bind fun h τ1 => (g τ1).bind fun hs τ2 => .ok (h :: hs) τ2
theorem ta_nil : TrA X c [] anil := by
  refine ⟨fun W _ => pa_mono pa_nil fun σ H Q h => ?_⟩
  obtain ⟨τ, F, S, sa, h⟩ := h
  exact (show Post c (fun F H => RelHs c F H σ) W F H σ S Q (.ok [] τ) from h) [] F H [] S Go.refl sa ⟨rfl, rfl⟩ sa.nd
theorem RelHs.hand {F1 H1 F2 H2 : Hp} {σ : L2.St} {A S1 B : List Addr} {h : List Hdl} {v : List V} (r : RelHs c F1 H1 σ h v A) (b : Go F1 H1 S1 F2 H2 B) (nd : (A ++ S1).Nodup) : RelHs c F2 H2 σ h v A := by
  induction h generalizing v A with
  | nil => exact r
  | cons x xs ih =>
    obtain ⟨w, ws, B1, C, rfl, rfl, r1, r2⟩ := r
    have n1 := List.nodup_append.mp nd
    refine ⟨w, ws, B1, C, rfl, rfl, r1.hand b ?_, ih r2 ?_⟩
    · have n2 := List.nodup_append.mp n1.1
      exact List.nodup_append.mpr ⟨n2.1, n1.2.1, fun x hx y hy => n1.2.2 x (List.mem_append_left _ hx) y hy⟩
    · have n2 := List.nodup_append.mp n1.1
      exact List.nodup_append.mpr ⟨n2.2.1, n1.2.1, fun x hx y hy => n1.2.2 x (List.mem_append_right _ hx) y hy⟩
theorem acons_sound {W : WX} {σ : L2.St} {H : Hp} {Q : List V → Hp → Prop} (h : tA c (acons f g) W σ H Q) : tCons (tE c f W) (tA c g W) σ H Q := by
  obtain ⟨τ, F, S, sa, h⟩ := h
  refine ⟨τ, F, S, sa, ?_⟩
  unfold acons at h
  cases e1 : f τ with
  | bad => rw [e1] at h; exact h
  | ex n d τ' => rw [e1] at h; exact h
  | ok h1 τ1 =>
    rw [e1] at h
    intro v1 F1 H1 A1 S1 g1 sa1 r1 nd1
    refine ⟨τ1, F1, S1, sa1, ?_⟩
    have h : Post c (fun F H => RelHs c F H σ) W F H σ S Q ((g τ1).bind fun hs τ2 => .ok (h1 :: hs) τ2) := h
    cases e2 : g τ1 with
    | bad => rw [e2] at h; exact h
    | ex n d τ' =>
      rw [e2] at h
      exact Post.step (α := List Hdl) (β := List V) (R := fun F H => RelHs c F H σ) (Q := Q) (r := .ex n d τ') g1 h
    | ok hs τ2 =>
      rw [e2] at h
      intro v2 F2 H2 A2 S2 g2 sa2 r2 nd2
      have h : Post c (fun F H => RelHs c F H σ) W F H σ S Q (.ok (h1 :: hs) τ2) := h
      exact h (v1 :: v2) F2 H2 (A1 ++ A2) S2 (by rw [List.append_assoc]; exact Go.trans g1 g2) sa2 ⟨v1, v2, A1, A2, rfl, rfl, r1.hand g2 nd1, r2⟩ (by rw [List.append_assoc]; exact nodup_hand g2 r1.owned nd1 nd2)
theorem ta_cons (ha : Tr X c e f) (hr : TrA X c es g) (hs : starEach (e :: es) X.env = (false, eval e X.env) :: starEach es X.env := by rfl) : TrA X c (e :: es) (acons f g) :=
  ⟨fun W tk => pa_mono (pa_cons (ha.pe W tk) (hr.pa W tk) hs) fun _ _ _ h => acons_sound h⟩

/-! ### displays -/
def valsOf : List Hdl → Option (List D)
  | [] => some []
  | .val d :: hs => (valsOf hs).map (d :: ·)
  | .slot _ :: _ => none
theorem valsOf_rel {F H : Hp} {σ : L2.St} : ∀ {hs : List Hdl} {ds : List D} {vs : List V} {A : List Addr}, valsOf hs = some ds → RelHs c F H σ hs vs A → Rels c F H ds vs A
  | [], ds, vs, A, e, r => by cases e; exact r
  | .val d :: hs, ds, vs, A, e, r => by
    obtain ⟨w, ws, B1, C, rfl, rfl, r1, r2⟩ := r
    have e : (valsOf hs).map (d :: ·) = some ds := e
    cases e1 : valsOf hs with
    | none => rw [e1] at e; cases e
    | some ds' =>
      rw [e1] at e
      cases e
      exact ⟨w, ws, B1, C, rfl, rfl, r1, valsOf_rel e1 r2⟩
  | .slot _ :: _, ds, vs, A, e, r => by cases e
def dsp (k : List D → D) (g : Den (List Hdl)) : Den Hdl := fun τ => (g τ).bind fun hs τ1 => match valsOf hs with
  | some ds => if ds.length ≤ 100000 then .ok (.val (k ds)) τ1 else .bad
  | none => .bad
theorem dsp_sound {k : List D → D} {W : WX} {σ : L2.St} {H : Hp} {Q : VK} (mk : List V → HO)
    (hk : ∀ {F H : Hp} {p : Addr} {ds : List D} {vs : List V} {A : List Addr}, (∀ b o, F b = some o → H b = some o) → Rels c F H ds vs A → H p = none → ∃ F' N, Grow F H F' (upd H p (mk vs)) N ∧ Rel c F' (upd H p (mk vs)) (k ds) (.ref p) (N ++ A))
    (h : tE c (dsp k g) W σ H Q) : tA c g W σ H fun xs H1 => xs.length ≤ sizeLine ∧ ∀ p, H1 p = none → Q (.ref p) (upd H1 p (mk xs)) := by
  obtain ⟨τ, F, S, sa, h⟩ := h
  refine ⟨τ, F, S, sa, ?_⟩
  unfold dsp at h
  cases e1 : g τ with
  | bad => rw [e1] at h; exact h
  | ex n d τ' => rw [e1] at h; exact h
  | ok hs τ1 =>
    rw [e1] at h
    intro vs F1 H1 A1 S1 g1 sa1 r1 nd1
    have h : Post c (fun F H => RelH c F H σ) W F H σ S Q (match valsOf hs with
      | some ds => if ds.length ≤ 100000 then .ok (.val (k ds)) τ1 else .bad
      | none => .bad) := h
    cases e2 : valsOf hs with
    | none => rw [e2] at h; exact h.elim
    | some ds =>
      rw [e2] at h
      have h : Post c (fun F H => RelH c F H σ) W F H σ S Q (if ds.length ≤ 100000 then .ok (.val (k ds)) τ1 else .bad) := h
      have r := valsOf_rel e2 r1
      by_cases hl : ds.length ≤ 100000
      · rw [if_pos hl] at h
        refine ⟨size_ok (by rw [r.length]; exact hl), fun p hp => ?_⟩
        obtain ⟨F', N, gr, rr⟩ := hk sa1.ex r hp
        obtain ⟨sa2, _⟩ := gr.sa sa1
        have own := r.owned
        have go := Go.trans0 g1 (gr.go (A1 ++ S1))
        have nd : (N ++ (A1 ++ S1)).Nodup := List.nodup_append.mpr ⟨gr.nd, nd1, fun x hx y hy z => by
          subst z
          rcases List.mem_append.mp hy with hy | hy
          · obtain ⟨_, o, h2, _⟩ := own x hy
            rw [gr.s x hx] at h2
            cases h2
          · obtain ⟨_, o, h2, _⟩ := sa1.owned x hy
            rw [gr.s x hx] at h2
            cases h2⟩
        exact h (.ref p) F' (upd H1 p (mk vs)) (N ++ A1) S1 (by rw [List.append_assoc]; exact go) sa2 rr (by rw [List.append_assoc]; exact nd)
      · rw [if_neg hl] at h
        exact h.elim
theorem t_tup {x1} (h : TrA X c es g) : Tr X c (.Tuple es x1 pos) (dsp .tup g) :=
  ⟨fun W tk => pe_mono (pe_tup (h.pa W tk)) fun σ H Q hq => dsp_sound HO.tup (fun e r hp => let ⟨gr, rr⟩ := rel_newT e r hp; ⟨_, [], gr, rr⟩) hq⟩
theorem t_lst (h : TrA X c es g) : Tr X c (.List es pos) (dsp (.lst true) g) := by
  refine ⟨fun W tk => pe_mono (pe_lst (h.pa W tk)) fun σ H Q hq => dsp_sound HO.lst (fun {F H p ds vs A} e r hp => ?_) hq⟩
  have gr : Grow F H F (upd H p (.lst vs)) [p] := grow_own e hp
  refine ⟨F, [p], gr, p, vs, A, rfl, upd_same, ?_, rfl, gr.rels r⟩
  cases q : F p with
  | none => rfl
  | some o =>
    rw [e p o q] at hp
    cases hp

/-! ### built-in functions -/
theorem uno_call {r : List V → Hp → VK → Prop} {h : D → Option D} {W : WX} {σ : L2.St} {H : Hp} {Q : VK} (hs : UoS c (fun x H Q => r [x] H Q) h) (q : tE c (uno h f) W σ H Q) : tCB r (tCons (tE c f W) tNil) σ H Q := uno_sound hs q
theorem t_callB {id : String} {r : List V → Hp → VK → Prop} {h : D → Option D} {x : Str} {p : Pos} (hc : CallR X (.builtin id) r) (hs : UoS c (fun x H Q => r [x] H Q) h) (ha : Tr X c a f) (hm : X.mg x = none) (hv : bootBuiltins x = some (.builtin id)) (hg : Gl X x := by rfl) (hn : x ≠ "__name__" := by decide)
    (hdb : (x == ("__debug__" : Str)) = false := by decide) (he : starEach [a] X.env = (false, eval a X.env) :: starEach [] X.env := by rfl) (hpl : (backTo pos (starEach [] X.env)).any (·.1) = false := by rfl) : Tr X c (.Call (.Name x p) [a] [] pos) (uno h f) :=
  ⟨fun W tk => pe_mono (pe_callB hc hg hm hv (pa_cons (ha.pe W tk) pa_nil he) hn hdb he hpl) fun _ _ _ q => uno_call hs q⟩
theorem t_callTy {T : String} {r : List V → Hp → VK → Prop} {h : D → Option D} {x : Str} {p : Pos} (hc : CallR X (.type T) r) (hs : UoS c (fun x H Q => r [x] H Q) h) (ha : Tr X c a f) (hm : X.mg x = none) (hv : bootBuiltins x = some (.type T)) (hg : Gl X x := by rfl) (hn : x ≠ "__name__" := by decide)
    (hdb : (x == ("__debug__" : Str)) = false := by decide) (he : starEach [a] X.env = (false, eval a X.env) :: starEach [] X.env := by rfl) (hpl : (backTo pos (starEach [] X.env)).any (·.1) = false := by rfl) : Tr X c (.Call (.Name x p) [a] [] pos) (uno h f) :=
  ⟨fun W tk => pe_mono (pe_callTy hc hg hm hv (pa_cons (ha.pe W tk) pa_nil he) hn hdb he hpl) fun _ _ _ q => uno_call hs q⟩
theorem t_callB2 {id : String} {r : List V → Hp → VK → Prop} {h : D → D → Option D} {x : Str} {p : Pos} (hc : CallR X (.builtin id) r) (hs : OpS c (fun x y H Q => r [x, y] H Q) h) (ha : Tr X c a f1) (hb : Tr X c b f2) (hm : X.mg x = none) (hv : bootBuiltins x = some (.builtin id)) (hg : Gl X x := by rfl) (hn : x ≠ "__name__" := by decide)
    (hdb : (x == ("__debug__" : Str)) = false := by decide) (he : starEach [a, b] X.env = (false, eval a X.env) :: starEach [b] X.env := by rfl) (he2 : starEach [b] X.env = (false, eval b X.env) :: starEach [] X.env := by rfl) (hpl : (backTo pos (starEach [b] X.env)).any (·.1) = false := by rfl) :
    Tr X c (.Call (.Name x p) [a, b] [] pos) (bin h f1 f2) :=
  ⟨fun W tk => pe_mono (pe_callB hc hg hm hv (pa_cons (ha.pe W tk) (pa_cons (hb.pe W tk) pa_nil he2) he) hn hdb he hpl) fun _ _ _ q => bin_sound hs q⟩
theorem CallR.or' {f : Value} {r r' : List V → Hp → VK → Prop} (h : CallR X f r) (h' : CallR X f r') : CallR X f (fun xs H Q => r xs H Q ∨ r' xs H Q) := h.or h'
/-- len -/
def lenD : D → Option D
  | .tup xs => some (.int xs.length)
  | .lst _ xs => some (.int xs.length)
  | .scr xs => some (.int xs.length)
  | .dct _ ks _ => some (.int ks.length)
  | .str s => if s.length ≤ 100000 then some (.int s.length) else none
  | _ => none
def rLen1 (K : PySem.W.Frag) : List V → Hp → VK → Prop := fun xs H Q => ((∃ p ys, xs = [.ref p] ∧ (SqL K H p ys ∨ SqT K H p ys) ∧ Q (.int ys.length) H) ∨ ∃ z, xs = [.str z] ∧ z.length ≤ sizeLine ∧ Q (.int z.length) H) ∨ ∃ p kvs, xs = [.ref p] ∧ H p = some (.dK kvs) ∧ Q (.int kvs.length) H
theorem call_len_dK : CallR X (.builtin "len") (fun xs H Q => ∃ p kvs, xs = [.ref p] ∧ H p = some (.dK kvs) ∧ Q (.int kvs.length) H) := by
  intro pins s σ H xs us Q I r h
  obtain ⟨p, kvs, rfl, e, q⟩ := h
  obtain ⟨u, rfl, r1⟩ := vals1 r
  obtain rfl : u = Value.ref p := r1
  exact d_len I (.inl e) fun t s' I' => ⟨.int kvs.length, H, I', ⟨t, rfl⟩, q⟩
theorem rel_dct {F H : Hp} (e : ∀ b o, F b = some o → H b = some o) {o : Bool} {ks : List Key} {xs : List D} {v : V} {A : List Addr} (r : Rel c F H (.dct o ks xs) v A) : ∃ p vs B, v = .ref p ∧ H p = some (.dK (ks.zip vs)) ∧ ks.length = xs.length ∧ Rels c F H xs vs B ∧ (∀ b ∈ B, b ∈ A) := by
  cases o with
  | true =>
    obtain ⟨p, vs, B, h0, h1, h3, h2, rfl, r⟩ := r
    exact ⟨p, vs, B, h0, h1, h3, r, fun b hb => List.mem_cons_of_mem _ hb⟩
  | false =>
    obtain ⟨p, vs, h0, h1, h3, rfl, r⟩ := r
    exact ⟨p, vs, [], h0, e _ _ h1, h3, r, fun b hb => hb⟩
theorem len_sound : UoS c (fun x H Q => rLen1 c.K [x] H Q) lenD := by
  refine ⟨rfl, fun {F H x dx A d Q} e rx eg q => ?_⟩
  cases dx <;> first | (cases eg; done) | skip
  · rename_i z
    have eg : (if z.length ≤ 100000 then some (D.int z.length) else none) = some d := eg
    split at eg <;> cases eg
    rename_i hl
    obtain ⟨rfl, _⟩ := rx
    exact .inl (.inr ⟨z, rfl, size_ok hl, q _ _ _ [] (Grow.refl e) rel_int⟩)
  · cases eg
    obtain ⟨p, vs, rfl, h, r⟩ := rx
    refine .inl (.inl ⟨p, vs, rfl, .inr (sqT_sub e h), ?_⟩)
    rw [r.length]
    exact q _ _ _ [] (Grow.refl e) rel_int
  · cases eg
    obtain ⟨p, vs, B, rfl, h, r, _⟩ := rel_lst e rx
    refine .inl (.inl ⟨p, vs, rfl, .inl (.inl (.inl h)), ?_⟩)
    rw [r.length]
    exact q _ _ _ [] (Grow.refl e) rel_int
  · cases eg
    obtain ⟨p, vs, B, rfl, h, hk, r, _⟩ := rel_dct e rx
    refine .inr ⟨p, _, rfl, h, ?_⟩
    rw [List.length_zip, r.length, hk, Nat.min_self]
    rw [hk] at q
    exact q _ _ _ [] (Grow.refl e) rel_int
  · rename_i ns
    cases eg
    obtain ⟨p, rfl, h, _⟩ := rx
    refine .inl (.inl ⟨p, ns.map V.int, rfl, .inl (sqL_mono e h), ?_⟩)
    rw [List.length_map]
    exact q _ _ _ [] (Grow.refl e) rel_int
theorem t_len {p : Pos} (hK : c.K = X.K) (hm : X.mg "len" = none) (ha : Tr X c a f) (hg : Gl X "len" := by rfl) (he : starEach [a] X.env = (false, eval a X.env) :: starEach [] X.env := by rfl) (hpl : (backTo pos (starEach [] X.env)).any (·.1) = false := by rfl) :
    Tr X c (.Call (.Name "len" p) [a] [] pos) (uno lenD f) :=
  t_callB (r := rLen1 c.K) (by rw [hK]; exact (call_len_seq.or call_len_str).or call_len_dK) len_sound ha hm PySem.boot_len hg (by decide) (by decide) he hpl
/-- int -/
def intD : D → Option D
  | .int i => some (.int i)
  | .bl k => some (.int (if k then 1 else 0))
  | _ => none
theorem t_int1 {p : Pos} (hm : X.mg "int" = none) (ha : Tr X c a f) (hg : Gl X "int" := by rfl) (he : starEach [a] X.env = (false, eval a X.env) :: starEach [] X.env := by rfl) (hpl : (backTo pos (starEach [] X.env)).any (·.1) = false := by rfl) :
    Tr X c (.Call (.Name "int" p) [a] [] pos) (uno intD f) :=
  t_callTy call_int1 ⟨rfl, fun {F H x dx A d Q} e rx eg q => by
    cases dx <;> first | (cases eg; done) | skip
    · cases eg
      obtain ⟨rfl, _⟩ := rx
      exact .inr ⟨_, rfl, q _ _ _ [] (Grow.refl e) rel_int⟩
    · cases eg
      obtain ⟨rfl, _⟩ := rx
      exact .inl ⟨_, rfl, q _ _ _ [] (Grow.refl e) rel_int⟩⟩ ha hm (by decide +kernel) hg (by decide) (by decide) he hpl
def max2D := iop fun i j => .int (if j > i then j else i)
def min2D := iop fun i j => .int (if j < i then j else i)
theorem iop_call {g : Int → Int → D} {gv : Int → Int → V} (h : ∀ i j F H, Rel c F H (g i j) (gv i j) []) : OpS c (fun x y H Q => ∃ i j, [x, y] = [V.int i, V.int j] ∧ Q (gv i j) H) (iop g) := by
  refine ⟨fun y => by cases y <;> rfl, fun x => by cases x <;> rfl, fun {F H x y dx dy A B d Q} e rx ry eg q => ?_⟩
  obtain ⟨i, j, rfl, rfl, q'⟩ := (iop_sound h).run e rx ry eg q
  exact ⟨i, j, rfl, q'⟩
theorem t_max2 {p : Pos} (hc : X.calm = true) (hm : X.mg "max" = none) (ha : Tr X c a f1) (hb : Tr X c b f2) (hg : Gl X "max" := by rfl) (he : starEach [a, b] X.env = (false, eval a X.env) :: starEach [b] X.env := by rfl) (he2 : starEach [b] X.env = (false, eval b X.env) :: starEach [] X.env := by rfl)
    (hpl : (backTo pos (starEach [b] X.env)).any (·.1) = false := by rfl) : Tr X c (.Call (.Name "max" p) [a, b] [] pos) (bin max2D f1 f2) :=
  t_callB2 (call_max2 hc) (iop_call fun _ _ _ _ => rel_int) ha hb hm (by decide +kernel) hg (by decide) (by decide) he he2 hpl
theorem t_min2 {p : Pos} (hc : X.calm = true) (hm : X.mg "min" = none) (ha : Tr X c a f1) (hb : Tr X c b f2) (hg : Gl X "min" := by rfl) (he : starEach [a, b] X.env = (false, eval a X.env) :: starEach [b] X.env := by rfl) (he2 : starEach [b] X.env = (false, eval b X.env) :: starEach [] X.env := by rfl)
    (hpl : (backTo pos (starEach [b] X.env)).any (·.1) = false := by rfl) : Tr X c (.Call (.Name "min" p) [a, b] [] pos) (bin min2D f1 f2) :=
  t_callB2 (call_min2 hc) (iop_call fun _ _ _ _ => rel_int) ha hb hm (by decide +kernel) hg (by decide) (by decide) he he2 hpl
/-- list, tuple of a list, a tuple -/
def listD : D → Option D
  | .tup xs => if D.pls xs then some (.lst true xs) else none
  | .lst _ xs => if D.pls xs then some (.lst true xs) else none
  | _ => none
def tupleD : D → Option D
  | .tup xs => if D.pls xs then some (.tup xs) else none
  | .lst _ xs => if D.pls xs then some (.tup xs) else none
  | _ => none
theorem t_list {p : Pos} (hK : c.K = X.K) (hm : X.mg "list" = none) (ha : Tr X c a f) (hg : Gl X "list" := by rfl) (he : starEach [a] X.env = (false, eval a X.env) :: starEach [] X.env := by rfl) (hpl : (backTo pos (starEach [] X.env)).any (·.1) = false := by rfl) :
    Tr X c (.Call (.Name "list" p) [a] [] pos) (uno listD f) :=
  t_callTy call_list_of ⟨rfl, fun {F H x dx A d Q} e rx eg q => by
    cases dx <;> first | (cases eg; done) | skip
    · rename_i xs
      have eg : (if D.pls xs then some (D.lst true xs) else none) = some d := eg
      split at eg <;> cases eg
      rename_i hp
      obtain ⟨p, vs, rfl, h, r⟩ := rx
      have z := r.pl_nil hp
      subst z
      refine ⟨p, vs, rfl, .inr (by rw [← hK]; exact sqT_sub e h), fun l hl => ?_⟩
      obtain ⟨g, rr⟩ := rel_new e r hl
      exact q _ _ _ [l] g rr
    · rename_i o xs
      have eg : (if D.pls xs then some (D.lst true xs) else none) = some d := eg
      split at eg <;> cases eg
      rename_i hp
      obtain ⟨p, vs, B, rfl, h, r, _⟩ := rel_lst e rx
      have z := r.pl_nil hp
      subst z
      refine ⟨p, vs, rfl, .inl (.inl (.inl h)), fun l hl => ?_⟩
      obtain ⟨g, rr⟩ := rel_new e r hl
      exact q _ _ _ [l] g rr⟩ ha hm (by decide +kernel) hg (by decide) (by decide) he hpl
theorem t_tuple {p : Pos} (hK : c.K = X.K) (hm : X.mg "tuple" = none) (ha : Tr X c a f) (hg : Gl X "tuple" := by rfl) (he : starEach [a] X.env = (false, eval a X.env) :: starEach [] X.env := by rfl) (hpl : (backTo pos (starEach [] X.env)).any (·.1) = false := by rfl) :
    Tr X c (.Call (.Name "tuple" p) [a] [] pos) (uno tupleD f) :=
  t_callTy call_tuple_of ⟨rfl, fun {F H x dx A d Q} e rx eg q => by
    cases dx <;> first | (cases eg; done) | skip
    · rename_i xs
      have eg : (if D.pls xs then some (D.tup xs) else none) = some d := eg
      split at eg <;> cases eg
      rename_i hp
      obtain ⟨p, vs, rfl, h, r⟩ := rx
      have z := r.pl_nil hp
      subst z
      exact ⟨p, vs, rfl, .inr ⟨by rw [← hK]; exact sqT_sub e h, q _ _ _ [] (Grow.refl e) ⟨p, vs, rfl, h, r⟩⟩⟩
    · rename_i o xs
      have eg : (if D.pls xs then some (D.tup xs) else none) = some d := eg
      split at eg <;> cases eg
      rename_i hp
      obtain ⟨p, vs, B, rfl, h, r, _⟩ := rel_lst e rx
      have z := r.pl_nil hp
      subst z
      refine ⟨p, vs, rfl, .inl ⟨.inl (.inl h), fun l hl => ?_⟩⟩
      obtain ⟨g, rr⟩ := rel_newT e r hl
      exact q _ _ _ [] g rr⟩ ha hm (by decide +kernel) hg (by decide) (by decide) he hpl
/-- isinstance(x, T) -/
def tyD : D → Option String
  | .non => some "NoneType"
  | .bl _ => some "bool"
  | .int _ => some "int"
  | .str _ => some "str"
  | .tup _ => some "tuple"
  | .lst _ _ => some "list"
  | .dct _ _ _ => some "dict"
  | _ => none
/-- the types that isinstance is asked of, and which types stand under them -/
def isiB (T : String) : D → Option Bool
  | .un => none
  | .scr _ => none
  | .tok _ => none
  | .tex _ _ => none
  | .non => some (T == "NoneType")
  | .bl _ => some (T == "bool" || T == "int")
  | .int _ => some (T == "int")
  | .str _ => some (T == "str")
  | .tup _ => some (T == "tuple")
  | .lst _ _ => some (T == "list")
  | .dct _ _ _ => some (T == "dict")
def isiD (T : String) (d : D) : Option D := (isiB T d).map .bl
structure IsTy (T : String) : Prop where
  non : kitB "NoneType" T = some (T == "NoneType")
  bl : kitB "bool" T = some (T == "bool" || T == "int")
  int : kitB "int" T = some (T == "int")
  str : kitB "str" T = some (T == "str")
  tup : kitB "tuple" T = some (T == "tuple")
  lst : kitB "list" T = some (T == "list")
  dct : kitB "dict" T = some (T == "dict")
theorem isTy_int : IsTy "int" := ⟨by decide +kernel, by decide +kernel, by decide +kernel, by decide +kernel, by decide +kernel, by decide +kernel, by decide +kernel⟩
theorem isTy_bool : IsTy "bool" := ⟨by decide +kernel, by decide +kernel, by decide +kernel, by decide +kernel, by decide +kernel, by decide +kernel, by decide +kernel⟩
theorem isTy_str : IsTy "str" := ⟨by decide +kernel, by decide +kernel, by decide +kernel, by decide +kernel, by decide +kernel, by decide +kernel, by decide +kernel⟩
theorem isTy_tuple : IsTy "tuple" := ⟨by decide +kernel, by decide +kernel, by decide +kernel, by decide +kernel, by decide +kernel, by decide +kernel, by decide +kernel⟩
theorem isTy_list : IsTy "list" := ⟨by decide +kernel, by decide +kernel, by decide +kernel, by decide +kernel, by decide +kernel, by decide +kernel, by decide +kernel⟩
theorem isi_sound {T : String} (hT : IsTy T) : UoS c (fun x H Q => rIsi c.K [x, .ty T] H Q) (isiD T) := by
  refine ⟨rfl, fun {F H x dx A d Q} e rx eg q => ?_⟩
  have fin : ∀ {k : Bool} {t : String}, TyX c.K H x (.type t) → kitB t T = some k → d = .bl k → rIsi c.K [x, .ty T] H Q := fun {k t} h1 h2 h3 => by
    subst h3
    exact ⟨x, .ty T, .type t, .type T, k, rfl, .ty T, h1, kit_ty h2, q _ _ _ [] (Grow.refl e) rel_bl⟩
  cases dx <;> first | (cases eg; done) | skip
  · cases eg; obtain ⟨rfl, _⟩ := rx; exact fin (.base .non) hT.non rfl
  · cases eg; obtain ⟨rfl, _⟩ := rx; exact fin (.base (.bl _)) hT.bl rfl
  · cases eg; obtain ⟨rfl, _⟩ := rx; exact fin (.base (.int _)) hT.int rfl
  · cases eg; obtain ⟨rfl, _⟩ := rx; exact fin (.base (.str _)) hT.str rfl
  · cases eg
    obtain ⟨p, vs, rfl, h, r⟩ := rx
    rcases h with (h | ⟨o, h⟩) | ⟨o, its, n, h1, h2, _⟩
    · exact fin (.base (.tup (e _ _ h))) hT.tup rfl
    · exact fin (.fTuple (e _ _ h)) hT.tup rfl
    · exact fin (.kTuple h1 h2) hT.tup rfl
  · cases eg
    obtain ⟨p, vs, B, rfl, h, _⟩ := rel_lst e rx
    exact fin (.base (.lst h)) hT.lst rfl
  · cases eg
    obtain ⟨p, vs, B, rfl, h, _⟩ := rel_dct e rx
    exact fin (.base (.dK h)) hT.dct rfl
theorem t_isi {T : String} {x : Str} {p p' : Pos} (hT : IsTy T) (hK : c.K = X.K) (hm : X.mg "isinstance" = none) (hmT : X.mg x = none) (hvT : bootBuiltins x = some (.type T)) (ha : Tr X c a f) (hg : Gl X "isinstance" := by rfl) (hgT : Gl X x := by rfl) (hnT : x ≠ "__name__" := by decide) (hdT : (x == ("__debug__" : Str)) = false := by decide)
    (he : starEach [a, .Name x p'] X.env = (false, eval a X.env) :: starEach [.Name x p'] X.env := by rfl) (he2 : starEach [.Name x p'] X.env = (false, eval (.Name x p') X.env) :: starEach [] X.env := by rfl) (hpl : (backTo pos (starEach [.Name x p'] X.env)).any (·.1) = false := by rfl) :
    Tr X c (.Call (.Name "isinstance" p) [a, .Name x p'] [] pos) (uno (isiD T) f) :=
  ⟨fun W tk => pe_mono (pe_callB (r := rIsi c.K) (by rw [hK]; exact call_isi) hg hm (by decide +kernel) (pa_cons (ha.pe W tk) (pa_cons (pe_bltn (v := .ty T) hgT hmT hvT rfl hnT hdT) pa_nil he2) he) (by decide) (by decide) he hpl) fun _ _ _ q => uno_sound (isi_sound hT) q⟩

/-! ### subscripts, slices -/
def keyD : D → Option Key
  | .int i => some (.inl i)
  | .str s => some (.inr s)
  | _ => none
def lookD : List Key → List D → Key → Option D
  | k :: ks, d :: ds, j => if k = j then some d else lookD ks ds j
  | _, _, _ => none
def plO : Option D → Option D
  | some d => if d.pl then some d else none
  | none => none
def ixD : D → D → Option D
  | .tup xs, .int i => plO (atI xs i)
  | .lst _ xs, .int i => plO (atI xs i)
  | .scr ns, .int i => (atI ns i).map D.int
  | .str s, .int i => if s.length ≤ 100000 then (atI s.cps.toList i).map (fun k => .str ⟨#[k]⟩) else none
  | .dct _ ks ds, k => (keyD k).bind fun j => plO (lookD ks ds j)
  | _, _ => none
theorem Rels.at {F H : Hp} : ∀ {ds : List D} {vs : List V} {A : List Addr} {j : Nat} {d : D}, Rels c F H ds vs A → ds[j]? = some d → ∃ v B, vs[j]? = some v ∧ Rel c F H d v B ∧ ∀ b ∈ B, b ∈ A
  | [], vs, A, j, d, r, e => by simp at e
  | x :: ds, vs, A, 0, d, r, e => by
    obtain ⟨v, ws, B, C, rfl, rfl, r1, r2⟩ := r
    have e' : x = d := by simpa using e
    subst e'
    exact ⟨v, B, rfl, r1, fun b hb => List.mem_append_left _ hb⟩
  | x :: ds, vs, A, j + 1, d, r, e => by
    obtain ⟨v, ws, B, C, rfl, rfl, r1, r2⟩ := r
    obtain ⟨w, B', h1, h2, h3⟩ := Rels.at (j := j) (d := d) r2 (by simpa using e)
    exact ⟨w, B', by simpa using h1, h2, fun b hb => List.mem_append_right _ (h3 b hb)⟩
theorem Rels.atI {F H : Hp} {ds : List D} {vs : List V} {A : List Addr} {i : Int} {d : D} (r : Rels c F H ds vs A) (e : atI ds i = some d) : ∃ v B, atI vs i = some v ∧ Rel c F H d v B := by
  unfold L2.atI at e ⊢
  rw [r.length]
  cases h : ixN ds.length i with
  | none => rw [h] at e; cases e
  | some j =>
    rw [h] at e
    obtain ⟨v, B, h1, h2, _⟩ := r.at (j := j) (d := d) e
    exact ⟨v, B, h1, h2⟩
theorem plO_some {o : Option D} {d : D} (h : plO o = some d) : o = some d ∧ d.pl = true := by
  cases o with
  | none => cases h
  | some x =>
    have h : (if x.pl then some x else none) = some d := h
    split at h <;> cases h
    rename_i k
    exact ⟨rfl, k⟩
theorem lookD_rel {F H : Hp} : ∀ {ks : List Key} {ds : List D} {vs : List V} {A : List Addr} {k : Key} {d : D}, Rels c F H ds vs A → lookD ks ds k = some d → ∃ v B, valV (ks.zip vs) k = some v ∧ Rel c F H d v B
  | [], ds, vs, A, k, d, r, e => by cases e
  | k0 :: ks, [], vs, A, k, d, r, e => by cases e
  | k0 :: ks, d0 :: ds, vs, A, k, d, r, e => by
    obtain ⟨v, ws, B, C, rfl, rfl, r1, r2⟩ := r
    have e : (if k0 = k then some d0 else lookD ks ds k) = some d := e
    by_cases hk : k0 = k
    · rw [if_pos hk] at e
      cases e
      exact ⟨v, B, by rw [List.zip_cons_cons]; exact valV_pos hk, r1⟩
    · rw [if_neg hk] at e
      obtain ⟨w, B', h1, h2⟩ := lookD_rel r2 e
      exact ⟨w, B', by rw [List.zip_cons_cons, valV_neg hk]; exact h1, h2⟩
theorem keyD_rel {F H : Hp} {d : D} {v : V} {A : List Addr} {k : Key} (e : keyD d = some k) (r : Rel c F H d v A) : v = kV k := by
  cases d <;> first | (cases e; done) | skip
  · cases e; exact r.1
  · cases e; exact r.1
def rIxA (K : PySem.W.Frag) : R2 := fun x y H Q => rIx K x y H Q ∨ ∃ a v, x = .ref a ∧ DGet H a y (some v) ∧ Q v H
theorem ix_dict (hu : X.A.units + 1 < cLine) : IxR X (fun x y H Q => ∃ a v, x = .ref a ∧ DGet H a y (some v) ∧ Q v H) := by
  intro value slice pins s σ H x y v u Q I rx ry h hs
  obtain ⟨a, z, rfl, g, q⟩ := h
  obtain rfl : v = Value.ref a := rx
  have hT := dict_typeIs I g
  unfold subscriptTail
  refine wpAny_bind ?_
  rw [getitemInPython_of_ne hT.not_modules]
  refine wpAny_bind (wpAny_specialOf hT PySem.F.slot_dict_getitem.lookup ?_)
  have fin : wpAny (model X.prog X.w) X.A (subscripted slice false (Value.ref a) u) (fun r s₃ => wpAny (model X.prog X.w) X.A (letTemporaryGo value (Value.ref a) r >>= fun _ => pure r) (EP X pins σ Q) X.xe s₃) X.xe s := by
    rw [hs]
    exact wpAny_operating (d_getItem hu I g ry fun w' s' I' rw' => wpAny_bind (wpAny_letTemporaryGo (wpAny_pure ⟨z, H, I', rw', q⟩)))
  first
    | exact wpAny_pure (wpAny_bind fin)
    | exact wpAny_bind (wpAny_pure (wpAny_bind fin))
    | exact wpAny_bind fin
theorem ix_sound : OpS c (rIxA c.K) ixD := by
  refine ⟨fun y => by cases y <;> rfl, fun x => by cases x <;> rfl, fun {F H x y dx dy A B d Q} e rx ry eg q => ?_⟩
  cases dx <;> first | (cases eg; done) | skip
  case str s =>
    cases dy <;> first | (cases eg; done) | skip
    rename_i i
    have eg : (if s.length ≤ 100000 then (atI s.cps.toList i).map (fun k => D.str ⟨#[k]⟩) else none) = some d := eg
    split at eg <;> first | (cases eg; done) | skip
    rename_i hl
    cases h : atI s.cps.toList i with
    | none => rw [h] at eg; cases eg
    | some k =>
      rw [h] at eg
      cases eg
      obtain ⟨rfl, _⟩ := rx
      obtain ⟨rfl, _⟩ := ry
      exact .inl (.inr (.inr ⟨s, i, k, rfl, rfl, size_ok hl, h, q _ _ _ [] (Grow.refl e) ⟨rfl, rfl⟩⟩))
  case tup xs =>
    cases dy <;> first | (cases eg; done) | skip
    rename_i i
    obtain ⟨h1, h2⟩ := plO_some eg
    obtain ⟨p, vs, rfl, h, r⟩ := rx
    obtain ⟨rfl, _⟩ := ry
    obtain ⟨v, B, h3, h4⟩ := r.atI h1
    have z := h4.pl_nil h2
    subst z
    exact .inl (.inr (.inl ⟨p, vs, i, v, rfl, rfl, sqT_sub e h, h3, q _ _ _ [] (Grow.refl e) h4⟩))
  case lst o xs =>
    cases dy <;> first | (cases eg; done) | skip
    rename_i i
    obtain ⟨h1, h2⟩ := plO_some eg
    obtain ⟨p, vs, B0, rfl, h, r, _⟩ := rel_lst e rx
    obtain ⟨rfl, _⟩ := ry
    obtain ⟨v, B, h3, h4⟩ := r.atI h1
    have z := h4.pl_nil h2
    subst z
    exact .inl (.inl ⟨p, vs, i, v, rfl, rfl, .inl (.inl h), h3, q _ _ _ [] (Grow.refl e) h4⟩)
  case scr ns =>
    cases dy <;> first | (cases eg; done) | skip
    rename_i i
    have eg : (atI ns i).map D.int = some d := eg
    cases h : atI ns i with
    | none => rw [h] at eg; cases eg
    | some k =>
      rw [h] at eg
      cases eg
      obtain ⟨p, rfl, h', _⟩ := rx
      obtain ⟨rfl, _⟩ := ry
      refine .inl (.inl ⟨p, ns.map V.int, i, .int k, rfl, rfl, sqL_mono e h', ?_, q _ _ _ [] (Grow.refl e) rel_int⟩)
      unfold L2.atI at h ⊢
      rw [List.length_map]
      cases h2 : ixN ns.length i with
      | none => rw [h2] at h; cases h
      | some j =>
        rw [h2] at h
        have h : ns[j]? = some k := h
        show (ns.map V.int)[j]? = some (.int k)
        rw [List.getElem?_map, h]
        rfl
  case dct o ks ds =>
    have eg : (keyD dy).bind (fun j => plO (lookD ks ds j)) = some d := by cases dy <;> exact eg
    cases hk : keyD dy with
    | none => rw [hk] at eg; cases eg
    | some k =>
      rw [hk] at eg
      obtain ⟨h1, h2⟩ := plO_some eg
      obtain ⟨p, vs, B0, rfl, h, _, r, _⟩ := rel_dct e rx
      obtain ⟨v, B, h3, h4⟩ := lookD_rel r h1
      have z := h4.pl_nil h2
      subst z
      have ey := keyD_rel hk ry
      subst ey
      refine .inr ⟨p, v, rfl, ?_, q _ _ _ [] (Grow.refl e) h4⟩
      rw [← h3]
      exact DGet.k h
theorem t_ixA (hK : c.K = X.K) (hu : X.A.units + 1 < cLine) (ha : Tr X c a f1) (hb : Tr X c b f2) (hp : PlainIx b := by exact fun _ _ => rfl) : Tr X c (.Subscript a b pos) (bin ixD f1 f2) :=
  t_ix (r := rIxA c.K) (by rw [hK]; exact ix_seq.or (ix_dict hu)) ix_sound ha hb hp

def pn : Den (Option Int) := fun τ => .ok none τ
def pso (f : Den Hdl) : Den (Option Int) := fun τ => (f τ).bind fun h τ1 => match h.get τ1 with
  | .int i => .ok (some i) τ1
  | _ => .bad
def tO (c : Ctx) (f : Den (Option Int)) (W : WX) : TO := fun σ H Q => ∃ τ F S, SA c F H σ τ S ∧ Post c (fun _ _ (a : Option Int) b A => b = a ∧ A = []) W F H σ S Q (f τ)
structure TrO (X : Cx) (c : Ctx) (e : Option Expr) (f : Den (Option Int)) : Prop where
  po : ∀ W, L2N.Takes X W → PO X e (tO c f W)
theorem po_mono {e : Option Expr} {t t' : TO} (h : PO X e t) (k : ∀ σ H Q, t' σ H Q → t σ H Q) : PO X e t' := ⟨fun pins s σ H Q I q => h.run pins s σ H Q I (k σ H Q q)⟩
theorem to_none : TrO X c none pn := by
  refine ⟨fun W _ => po_mono po_none fun σ H Q h => ?_⟩
  obtain ⟨τ, F, S, sa, h⟩ := h
  exact (show Post c (fun _ _ (a : Option Int) b A => b = a ∧ A = []) W F H σ S Q (.ok none τ) from h) none F H [] S Go.refl sa ⟨rfl, rfl⟩ sa.nd
theorem to_some (ha : Tr X c a f) : TrO X c (some a) (pso f) := by
  refine ⟨fun W tk => po_mono (po_some (ha.pe W tk)) fun σ H Q h => ?_⟩
  obtain ⟨τ, F, S, sa, h⟩ := h
  refine ⟨τ, F, S, sa, ?_⟩
  unfold pso at h
  cases e1 : f τ with
  | bad => rw [e1] at h; exact h
  | ex n d τ' => rw [e1] at h; exact h
  | ok h1 τ1 =>
    rw [e1] at h
    intro v1 F1 H1 A1 S1 g1 sa1 r1 nd1
    have h : Post c (fun _ _ (a : Option Int) b A => b = a ∧ A = []) W F H σ S Q (match h1.get τ1 with
      | .int i => .ok (some i) τ1
      | _ => .bad) := h
    rcases r1.get sa1 with z | ⟨B1, q1⟩
    · rw [z] at h; exact h.elim
    · cases eg : h1.get τ1 <;> rw [eg] at h q1 <;> first | exact h.elim | skip
      obtain ⟨rfl, _⟩ := q1
      exact ⟨_, rfl, h _ F1 H1 [] S1 (Go.less g1 fun b hb => List.mem_append_right _ hb) sa1 ⟨rfl, rfl⟩ sa1.nd⟩
def cutD (xs : List D) (lo hi : Option Int) : List D := (xs.drop (HT.sIx xs.length 0 lo)).take (HT.sIx xs.length xs.length hi - HT.sIx xs.length 0 lo)
def slcD (d : D) (lo hi : Option Int) : Option D := match d with
  | .tup xs => if D.pls xs then some (.tup (cutD xs lo hi)) else none
  | .lst _ xs => if D.pls xs then some (.lst true (cutD xs lo hi)) else none
  | .str s => if s.length ≤ 100000 then some (.str (cutS s lo hi)) else none
  | _ => none
def slc (f : Den Hdl) (l h : Den (Option Int)) : Den Hdl := fun τ => (f τ).bind fun x τ1 => (l τ1).bind fun lo τ2 => (h τ2).bind fun hi τ3 => match slcD (x.get τ3) lo hi with
  | some d => .ok (.val d) τ3
  | none => .bad
theorem Rels.drop {F H : Hp} : ∀ {ds : List D} {vs : List V} (n : Nat), Rels c F H ds vs [] → Rels c F H (ds.drop n) (vs.drop n) []
  | ds, vs, 0, r => r
  | [], vs, n + 1, r => by obtain ⟨rfl, _⟩ := r; exact Rels.nil
  | d :: ds, vs, n + 1, r => by
    obtain ⟨v, ws, B, C, rfl, e, r1, r2⟩ := r
    have z := List.append_eq_nil_iff.mp e.symm
    obtain ⟨rfl, rfl⟩ := z
    exact Rels.drop n r2
theorem Rels.take {F H : Hp} : ∀ {ds : List D} {vs : List V} (n : Nat), Rels c F H ds vs [] → Rels c F H (ds.take n) (vs.take n) []
  | ds, vs, 0, r => by rw [List.take_zero, List.take_zero]; exact Rels.nil
  | [], vs, n + 1, r => by obtain ⟨rfl, _⟩ := r; exact Rels.nil
  | d :: ds, vs, n + 1, r => by
    obtain ⟨v, ws, B, C, rfl, e, r1, r2⟩ := r
    have z := List.append_eq_nil_iff.mp e.symm
    obtain ⟨rfl, rfl⟩ := z
    exact ⟨v, ws.take n, [], [], rfl, rfl, r1, Rels.take n r2⟩
theorem cut_rel {F H : Hp} {ds : List D} {vs : List V} {lo hi : Option Int} (r : Rels c F H ds vs []) : Rels c F H (cutD ds lo hi) (cutV vs lo hi) [] := by
  unfold cutD cutV
  rw [r.length]
  exact (r.drop _).take _
theorem cutD_whole {ds : List D} {lo hi : Option Int} (h : HT.sIx ds.length 0 lo = 0 ∧ HT.sIx ds.length ds.length hi = ds.length) : cutD ds lo hi = ds := by
  unfold cutD
  rw [h.1, h.2, List.drop_zero, Nat.sub_zero, List.take_length]
def rSlc (K : PySem.W.Frag) : V → Option Int → Option Int → Hp → VK → Prop := fun x lo hi H Q => (rSlA K x lo hi H Q ∨ rSlL K x lo hi H Q) ∨ rSlS x lo hi H Q
theorem slc_core {F H : Hp} {x : V} {dx d : D} {A : List Addr} {lo hi : Option Int} {Q : VK} (e : ∀ b o, F b = some o → H b = some o) (rx : Rel c F H dx x A) (eg : slcD dx lo hi = some d)
    (q : ∀ v F' H' N, Grow F H F' H' N → Rel c F' H' d v N → Q v H') : rSlc c.K x lo hi H Q := by
  cases dx <;> first | (cases eg; done) | skip
  · rename_i s
    have eg : (if s.length ≤ 100000 then some (D.str (cutS s lo hi)) else none) = some d := eg
    split at eg <;> cases eg
    rename_i hl
    obtain ⟨rfl, _⟩ := rx
    exact .inr ⟨s, rfl, size_ok hl, q _ _ _ [] (Grow.refl e) ⟨rfl, rfl⟩⟩
  · rename_i xs
    have eg : (if D.pls xs then some (D.tup (cutD xs lo hi)) else none) = some d := eg
    split at eg <;> cases eg
    rename_i hp
    obtain ⟨p, vs, rfl, h, r⟩ := rx
    have z := r.pl_nil hp
    subst z
    refine .inl (.inl ⟨p, vs, rfl, sqT_sub e h, fun z => ?_, fun _ l hl => ?_⟩)
    · rw [r.length] at z
      rw [cutD_whole z] at q
      exact q _ _ _ [] (Grow.refl e) ⟨p, vs, rfl, h, r⟩
    · obtain ⟨g, rr⟩ := rel_newT e (cut_rel r) hl
      exact q _ _ _ [] g rr
  · rename_i o xs
    have eg : (if D.pls xs then some (D.lst true (cutD xs lo hi)) else none) = some d := eg
    split at eg <;> cases eg
    rename_i hp
    obtain ⟨p, vs, B, rfl, h, r, _⟩ := rel_lst e rx
    have z := r.pl_nil hp
    subst z
    refine .inl (.inr ⟨p, vs, rfl, .inl (.inl h), fun l hl => ?_⟩)
    obtain ⟨g, rr⟩ := rel_new e (cut_rel r) hl
    exact q _ _ _ [l] g rr
theorem t_slc {lo hi : Option Expr} {l h : Den (Option Int)} {p2 : Pos} (hK : c.K = X.K) (ha : Tr X c a f) (hl : TrO X c lo l) (hh : TrO X c hi h) : Tr X c (.Subscript a (.Slice lo hi none p2) pos) (slc f l h) := by
  refine ⟨fun W tk => pe_mono (pe_slice (r := rSlc c.K) (by rw [hK]; exact (sl_tupA.or sl_list).or sl_str) (ha.pe W tk) (hl.po W tk) (hh.po W tk)) fun σ H Q q => ?_⟩
  obtain ⟨τ, F, S, sa, q⟩ := q
  refine ⟨τ, F, S, sa, ?_⟩
  unfold slc at q
  cases e1 : f τ with
  | bad => rw [e1] at q; exact q
  | ex n d τ' => rw [e1] at q; exact q
  | ok x τ1 =>
    rw [e1] at q
    intro v1 F1 H1 A1 S1 g1 sa1 r1 nd1
    refine ⟨τ1, F1, S1, sa1, ?_⟩
    have q : Post c (fun F H => RelH c F H σ) W F H σ S Q ((l τ1).bind fun lo τ2 => (h τ2).bind fun hi τ3 => match slcD (x.get τ3) lo hi with
      | some d => .ok (.val d) τ3
      | none => .bad) := q
    have q := Post.step g1 q
    cases e2 : l τ1 with
    | bad => rw [e2] at q; exact q
    | ex n d τ' => rw [e2] at q; exact q
    | ok lo' τ2 =>
      rw [e2] at q
      intro v2 F2 H2 A2 S2 g2 sa2 r2 nd2
      obtain ⟨rfl, rfl⟩ := r2
      refine ⟨τ2, F2, S2, sa2, ?_⟩
      have q : Post c (fun F H => RelH c F H σ) W F1 H1 σ S1 Q ((h τ2).bind fun hi τ3 => match slcD (x.get τ3) v2 hi with
        | some d => .ok (.val d) τ3
        | none => .bad) := q
      have q := Post.step (A := []) g2 q
      have r1' := r1.hand g2 nd1
      have nd1' : (A1 ++ S2).Nodup := nodup_hand g2 r1.owned nd1 sa2.nd
      cases e3 : h τ2 with
      | bad => rw [e3] at q; exact q
      | ex n d τ' => rw [e3] at q; exact q
      | ok hi' τ3 =>
        rw [e3] at q
        intro v3 F3 H3 A3 S3 g3 sa3 r3 nd3
        obtain ⟨rfl, rfl⟩ := r3
        have q : Post c (fun F H => RelH c F H σ) W F2 H2 σ S2 Q (match slcD (x.get τ3) v2 v3 with
          | some d => .ok (.val d) τ3
          | none => .bad) := q
        have q := Post.step (A := []) g3 q
        have r1'' := r1'.hand g3 nd1'
        cases eg : slcD (x.get τ3) v2 v3 with
        | none => rw [eg] at q; exact q.elim
        | some d =>
          rw [eg] at q
          rcases r1''.get sa3 with z | ⟨B1, w1⟩
          · rw [z] at eg
            cases eg
          exact slc_core sa3.ex w1 eg fun v F' H' N gr rr => Post.grow (a := Hdl.val d) sa3 q gr rr
end
end Y
end

section
set_option Elab.async false
set_option linter.all false
set_option maxRecDepth 100000
set_option maxHeartbeats 4000000
/-! Y5: statements. -/
namespace Y
open PySem PySem.Spec PyProof.Rows L2

inductive Fl where
  | nx (τ : List D) | rt (d : D) (τ : List D) | bk (τ : List D) | ct (τ : List D) | ex (n : Str) (d : D) (τ : List D) | bad
abbrev SDen := List D → Fl
def PostS (c : Ctx) (W : WX) (E : Ends) (F H : Hp) (S : List Addr) : Fl → Prop
  | .nx τ' => ∀ σ' F' H' S', Go F H S F' H' S' → SA c F' H' σ' τ' S' → E.nx σ' H'
  | .bk τ' => ∀ σ' F' H' S', Go F H S F' H' S' → SA c F' H' σ' τ' S' → E.bk σ' H'
  | .ct τ' => ∀ σ' F' H' S', Go F H S F' H' S' → SA c F' H' σ' τ' S' → E.ct σ' H'
  | .rt d τ' => ∀ v σ' F' H' A S', Go F H S F' H' (A ++ S') → SA c F' H' σ' τ' S' → Rel c F' H' d v A → (A ++ S').Nodup → E.rt v H'
  | .ex n d τ' => ∀ cv dx σ' F' H' S', Go F H S F' H' S' → SA c F' H' σ' τ' S' → ExP c F' H' n d cv dx → W cv dx σ' H'
  | .bad => False
def tS (c : Ctx) (f : SDen) (W : WX) : TS := fun E σ H => ∃ τ F S, SA c F H σ τ S ∧ PostS c W E F H S (f τ)
structure Ts (X : Cx) (c : Ctx) (st : Stmt) (f : SDen) : Prop where
  ps : ∀ W, L2N.Takes X W → PS X st (tS c f W)
structure Tss (X : Cx) (c : Ctx) (sts : List Stmt) (f : SDen) : Prop where
  pss : ∀ W, L2N.Takes X W → PSs X sts (tS c f W)
theorem ps_mono {X : Cx} {e : Stmt} {t t' : TS} (h : PS X e t) (k : ∀ E σ H, t' E σ H → t E σ H) : PS X e t' := ⟨fun pins s σ H E I q => h.run pins s σ H E I (k E σ H q)⟩
theorem pss_mono {X : Cx} {e : List Stmt} {t t' : TS} (h : PSs X e t) (k : ∀ E σ H, t' E σ H → t E σ H) : PSs X e t' := ⟨fun pins s σ H E I q => h.run pins s σ H E I (k E σ H q)⟩

section
variable {c : Ctx} {F H F1 H1 F2 H2 : Hp} {σ : L2.St} {τ τ1 : List D} {S S1 A B : List Addr} {W : WX} {E : Ends}
theorem PostS.step (g : Go F H S F1 H1 (A ++ S1)) : ∀ {r : Fl}, PostS c W E F H S r → PostS c W E F1 H1 S1 r
  | .nx _, h => fun σ' F' H' S' go sa => h σ' F' H' S' (Go.less (Go.trans g go) fun b hb => List.mem_append_right _ hb) sa
  | .bk _, h => fun σ' F' H' S' go sa => h σ' F' H' S' (Go.less (Go.trans g go) fun b hb => List.mem_append_right _ hb) sa
  | .ct _, h => fun σ' F' H' S' go sa => h σ' F' H' S' (Go.less (Go.trans g go) fun b hb => List.mem_append_right _ hb) sa
  | .rt _ _, h => fun v σ' F' H' B S' go sa r nd => h v σ' F' H' B S' (Go.less (Go.trans g go) fun b hb => List.mem_append_right _ hb) sa r nd
  | .ex _ _ _, h => fun cv dx σ' F' H' S' go sa x => h cv dx σ' F' H' S' (Go.less (Go.trans g go) fun b hb => List.mem_append_right _ hb) sa x
  | .bad, h => h
theorem PostS.ends {E' : Ends} (h1 : ∀ σ H, E.nx σ H → E'.nx σ H) (h2 : ∀ v H, E.rt v H → E'.rt v H) (h3 : ∀ σ H, E.bk σ H → E'.bk σ H) (h4 : ∀ σ H, E.ct σ H → E'.ct σ H) : ∀ {r : Fl}, PostS c W E F H S r → PostS c W E' F H S r
  | .nx _, h => fun σ' F' H' S' go sa => h1 _ _ (h σ' F' H' S' go sa)
  | .bk _, h => fun σ' F' H' S' go sa => h3 _ _ (h σ' F' H' S' go sa)
  | .ct _, h => fun σ' F' H' S' go sa => h4 _ _ (h σ' F' H' S' go sa)
  | .rt _ _, h => fun v σ' F' H' B S' go sa r nd => h2 _ _ (h v σ' F' H' B S' go sa r nd)
  | .ex _ _ _, h => h
  | .bad, h => h
/-- a slot gets a value -/
theorem SA.put (sa : SA c F H σ τ S) {i : Nat} {d : D} {v : V} (r : Rel c F H d v A) (nd : (A ++ S).Nodup) (hf : c.fx i = false) : ∃ S', SA c F H (σ.set i (some v)) (τ.set i d) S' ∧ ∀ b ∈ S', b ∈ A ++ S := by
  have fx : ∀ j, c.fx j = true → (σ.set i (some v))[j]? = c.σ0[j]? := fun j hj => by
    have ne : i ≠ j := fun z => by
      subst z
      rw [hf] at hj
      cases hj
    rw [List.getElem?_set_ne ne]
    exact sa.fx j hj
  cases hi : τ[i]? with
  | none =>
    have l1 := sa.sl.length
    have l2 := List.getElem?_eq_none_iff.mp hi
    refine ⟨S, ⟨sa.ex, sa.nt, sa.fb, sa.tb, ?_, sa.nd, fx⟩, fun b hb => List.mem_append_right _ hb⟩
    rw [List.set_eq_of_length_le (by omega), List.set_eq_of_length_le (by omega)]
    exact sa.sl
  | some d0 =>
    obtain ⟨x, A0, B1, B2, e1, rfl, r1, k⟩ := Slots.at sa.sl hi
    have n1 := List.nodup_append.mp nd
    have n2 := List.nodup_append.mp n1.2.1
    have n3 := List.nodup_append.mp n2.2.1
    refine ⟨B1 ++ (A ++ B2), ⟨sa.ex, sa.nt, sa.fb, sa.tb, k F H (some v) d A (fun _ _ h => h) (fun b hb => ⟨rfl, (sa.owned b ?_).1⟩) (slotR_mk r), ?_, fx⟩, fun b hb => ?_⟩
    · rcases List.mem_append.mp hb with y | y
      · exact List.mem_append_left _ y
      · exact List.mem_append_right _ (List.mem_append_right _ y)
    · refine List.nodup_append.mpr ⟨n2.1, List.nodup_append.mpr ⟨n1.1, n3.2.1, fun x hx y hy => n1.2.2 x hx y (List.mem_append_right _ (List.mem_append_right _ hy))⟩, fun x hx y hy z => ?_⟩
      subst z
      rcases List.mem_append.mp hy with hy | hy
      · exact n1.2.2 x hy x (List.mem_append_left _ hx) rfl
      · exact n2.2.2 x hx x (List.mem_append_right _ hy) rfl
    · rcases List.mem_append.mp hb with y | y
      · exact List.mem_append_right _ (List.mem_append_left _ y)
      · rcases List.mem_append.mp y with y | y
        · exact List.mem_append_left _ y
        · exact List.mem_append_right _ (List.mem_append_right _ (List.mem_append_right _ y))
/-- a slot is forgotten; what it held is in hand -/
theorem SA.take (sa : SA c F H σ τ S) {i : Nat} {d : D} (hi : τ[i]? = some d) (hd : d ≠ .un) : ∃ v A S', σ[i]? = some (some v) ∧ Rel c F H d v A ∧ SA c F H σ (τ.set i .un) S' ∧ (A ++ S').Nodup ∧ ∀ b, b ∈ A ++ S' ↔ b ∈ S := by
  obtain ⟨x, A0, B1, B2, e1, rfl, r1, k⟩ := Slots.at sa.sl hi
  rcases slotR_of r1 with ⟨z, _⟩ | ⟨v, rfl, r⟩
  · exact absurd z hd
  have n2 := List.nodup_append.mp sa.nd
  have n3 := List.nodup_append.mp n2.2.1
  refine ⟨v, A0, B1 ++ B2, e1, r, ⟨sa.ex, sa.nt, sa.fb, sa.tb, ?_, ?_, sa.fx⟩, ?_, fun b => ?_⟩
  · have q := k F H (some v) .un [] (fun _ _ h => h) (fun b hb => ⟨rfl, (sa.owned b ?_).1⟩) rfl
    · rw [set_same e1] at q
      simpa using q
    · rcases List.mem_append.mp hb with y | y
      · exact List.mem_append_left _ y
      · exact List.mem_append_right _ (List.mem_append_right _ y)
  · exact List.nodup_append.mpr ⟨n2.1, n3.2.1, fun x hx y hy => n2.2.2 x hx y (List.mem_append_right _ hy)⟩
  · refine List.nodup_append.mpr ⟨n3.1, List.nodup_append.mpr ⟨n2.1, n3.2.1, fun x hx y hy => n2.2.2 x hx y (List.mem_append_right _ hy)⟩, fun x hx y hy z => ?_⟩
    subst z
    rcases List.mem_append.mp hy with hy | hy
    · exact n2.2.2 x hy x (List.mem_append_left _ hx) rfl
    · exact n3.2.2 x hx x hy rfl
  · simp only [List.mem_append]
    constructor
    · rintro (h | h | h)
      · exact .inr (.inl h)
      · exact .inl h
      · exact .inr (.inr h)
    · rintro (h | h | h)
      · exact .inr (.inl h)
      · exact .inl h
      · exact .inr (.inr h)
end

/-- from an expression's end to a statement's -/
def onE (r : Rz Hdl) (k : Hdl → List D → Fl) : Fl := match r with
  | .ok h τ => k h τ
  | .ex n d τ => .ex n d τ
  | .bad => .bad
def onT (r : Rz Bool) (k : Bool → List D → Fl) : Fl := match r with
  | .ok h τ => k h τ
  | .ex n d τ => .ex n d τ
  | .bad => .bad
section
variable {X : Cx} {c : Ctx} {a b e : Expr} {rest es : List Expr} {f f1 f2 f3 : Den Hdl} {g : Den (List Hdl)} {pos : Pos} {st : Stmt} {sts sts2 : List Stmt} {p q : SDen} {t : Den Bool}
/-- an expression within a statement: what must hold behind it -/
theorem onE_sound {W : WX} {E : Ends} {σ : L2.St} {H : Hp} {k : Hdl → List D → Fl} {R : VK} (h : tS c (fun τ => onE (f τ) k) W E σ H)
    (hk : ∀ {h : Hdl} {τ1 : List D} {v : V} {F1 H1 : Hp} {A S1 : List Addr}, SA c F1 H1 σ τ1 S1 → RelH c F1 H1 σ h v A → (A ++ S1).Nodup → PostS c W E F1 H1 (A ++ S1) (k h τ1) → R v H1) : tE c f W σ H R := by
  obtain ⟨τ, F, S, sa, h⟩ := h
  refine ⟨τ, F, S, sa, ?_⟩
  have h : PostS c W E F H S (onE (f τ) k) := h
  cases e1 : f τ with
  | bad => rw [e1] at h; exact h
  | ex n d τ' =>
    rw [e1] at h
    intro cv dx F' H' S' go sa' x
    exact (show PostS c W E F H S (.ex n d τ') from h) cv dx σ F' H' S' go sa' x
  | ok h1 τ1 =>
    rw [e1] at h
    intro v1 F1 H1 A1 S1 g1 sa1 r1 nd1
    exact hk sa1 r1 nd1 (PostS.step (A := []) g1 (show PostS c W E F H S (k h1 τ1) from h))
theorem onT_sound {W : WX} {E : Ends} {σ : L2.St} {H : Hp} {k : Bool → List D → Fl} {R : Bool → Hp → Prop} (h : tS c (fun τ => onT (t τ) k) W E σ H)
    (hk : ∀ {b : Bool} {τ1 : List D} {F1 H1 : Hp} {S1 : List Addr}, SA c F1 H1 σ τ1 S1 → PostS c W E F1 H1 S1 (k b τ1) → R b H1) : tT c t W σ H R := by
  obtain ⟨τ, F, S, sa, h⟩ := h
  refine ⟨τ, F, S, sa, ?_⟩
  have h : PostS c W E F H S (onT (t τ) k) := h
  cases e1 : t τ with
  | bad => rw [e1] at h; exact h
  | ex n d τ' =>
    rw [e1] at h
    intro cv dx F' H' S' go sa' x
    exact (show PostS c W E F H S (.ex n d τ') from h) cv dx σ F' H' S' go sa' x
  | ok h1 τ1 =>
    rw [e1] at h
    intro v1 F1 H1 A1 S1 g1 sa1 r1 nd1
    obtain ⟨rfl, rfl⟩ := r1
    exact hk sa1 (PostS.step (A := []) g1 (show PostS c W E F H S (k v1 τ1) from h))

/-! ### blocks, small statements -/
def sNil : SDen := .nx
def sq (f g : SDen) : SDen := fun τ => match f τ with
  | .nx τ1 => g τ1
  | r => r
theorem ss_nil : Tss X c [] sNil := by
  refine ⟨fun W _ => pss_mono pss_nil fun E σ H h => ?_⟩
  obtain ⟨τ, F, S, sa, h⟩ := h
  exact (show PostS c W E F H S (.nx τ) from h) σ F H S Go.refl sa
theorem ss_cons (h1 : Ts X c st p) (h2 : Tss X c sts q) : Tss X c (st :: sts) (sq p q) := by
  refine ⟨fun W tk => pss_mono (pss_cons (h1.ps W tk) (h2.pss W tk)) fun E σ H h => ?_⟩
  obtain ⟨τ, F, S, sa, h⟩ := h
  refine ⟨τ, F, S, sa, ?_⟩
  unfold sq at h
  cases e1 : p τ with
  | nx τ1 =>
    rw [e1] at h
    intro σ1 F1 H1 S1 g1 sa1
    exact ⟨τ1, F1, S1, sa1, PostS.step (A := []) g1 h⟩
  | bk τ1 => rw [e1] at h; exact h
  | ct τ1 => rw [e1] at h; exact h
  | rt d τ1 => rw [e1] at h; exact h
  | ex n d τ1 => rw [e1] at h; exact h
  | bad => rw [e1] at h; exact h
theorem ss_one (h1 : Ts X c st p) : Tss X c [st] p := ⟨fun W tk => pss_one (h1.ps W tk)⟩
theorem s_pass : Ts X c (.Pass pos) sNil := by
  refine ⟨fun W _ => ps_mono ps_pass fun E σ H h => ?_⟩
  obtain ⟨τ, F, S, sa, h⟩ := h
  exact (show PostS c W E F H S (.nx τ) from h) σ F H S Go.refl sa
theorem s_break : Ts X c (.Break pos) .bk := by
  refine ⟨fun W _ => ps_mono ps_break fun E σ H h => ?_⟩
  obtain ⟨τ, F, S, sa, h⟩ := h
  exact (show PostS c W E F H S (.bk τ) from h) σ F H S Go.refl sa
theorem s_continue : Ts X c (.Continue pos) .ct := by
  refine ⟨fun W _ => ps_mono ps_continue fun E σ H h => ?_⟩
  obtain ⟨τ, F, S, sa, h⟩ := h
  exact (show PostS c W E F H S (.ct τ) from h) σ F H S Go.refl sa
def sExpr (f : Den Hdl) : SDen := fun τ => onE (f τ) fun _ τ1 => .nx τ1
theorem s_expr (he : Tr X c e f) (hs : swapsWith e none pos.line X.env = pure false := by rfl) : Ts X c (.Expr e pos) (sExpr f) := by
  refine ⟨fun W tk => ps_mono (ps_expr (he.pe W tk) hs) fun E σ H h => ?_⟩
  refine onE_sound h fun {h τ1 v F1 H1 A S1} sa r nd q => ?_
  exact (show PostS c W E F1 H1 (A ++ S1) (.nx τ1) from q) σ F1 H1 S1 (Go.less Go.refl fun b hb => List.mem_append_right _ hb) sa
def sRet (f : Den Hdl) : SDen := fun τ => onE (f τ) fun h τ1 => match h with
  | .val d => .rt d τ1
  | .slot i => match τ1[i]? with
    | some .un => .bad
    | some d => .rt d (τ1.set i .un)
    | none => .bad
theorem s_ret (he : Tr X c e f) : Ts X c (.Return (some e) pos) (sRet f) := by
  refine ⟨fun W tk => ps_mono (ps_ret (he.pe W tk)) fun E σ H h => ?_⟩
  refine onE_sound h fun {h τ1 v F1 H1 A S1} sa r nd q => ?_
  cases h with
  | val d => exact (show PostS c W E F1 H1 (A ++ S1) (.rt d τ1) from q) v σ F1 H1 A S1 Go.refl sa r nd
  | slot i =>
    obtain ⟨e1, rfl⟩ := r
    have q : PostS c W E F1 H1 S1 (match τ1[i]? with
      | some .un => .bad
      | some d => .rt d (τ1.set i .un)
      | none => .bad) := q
    cases hi : τ1[i]? with
    | none => rw [hi] at q; exact q.elim
    | some d =>
      rw [hi] at q
      have hn : d ≠ .un := fun z => by subst z; exact q.elim
      obtain ⟨v', A', S', e2, rr, sa', nd', hm⟩ := sa.take hi hn
      rw [e1] at e2
      cases e2
      have q' : PostS c W E F1 H1 S1 (.rt d (τ1.set i .un)) := by
        cases d <;> first | exact q | exact (hn rfl).elim
      exact q' v σ F1 H1 A' S' (Go.less Go.refl fun b hb => (hm b).mp hb) sa' rr nd'
def sRetN : SDen := fun τ => .rt .non τ
theorem s_retN : Ts X c (.Return none pos) sRetN := by
  refine ⟨fun W _ => ps_mono ps_retN fun E σ H h => ?_⟩
  obtain ⟨τ, F, S, sa, h⟩ := h
  exact (show PostS c W E F H S (.rt .non τ) from h) .non σ F H [] S Go.refl sa ⟨rfl, rfl⟩ sa.nd
def sIf (t : Den Bool) (p q : SDen) : SDen := fun τ => onT (t τ) fun b τ1 => if b = true then p τ1 else q τ1
theorem s_if (ht : TrT X c e t) (h1 : Tss X c sts p) (h2 : Tss X c sts2 q) : Ts X c (.If e sts sts2 pos) (sIf t p q) := by
  refine ⟨fun W tk => ps_mono (ps_if (ht.pt W tk) (h1.pss W tk) (h2.pss W tk)) fun E σ H h => ?_⟩
  refine onT_sound h fun {b τ1 F1 H1 S1} sa q => ?_
  cases b with
  | true => exact iteT ⟨τ1, F1, S1, sa, q⟩
  | false => exact iteF ⟨τ1, F1, S1, sa, q⟩
/-- x = e -/
def sSet (i : Nat) (f : Den Hdl) : SDen := fun τ => onE (f τ) fun h τ1 => match h with
  | .val d => .nx (τ1.set i d)
  | .slot _ => .bad
theorem sSet_sound {i : Nat} {W : WX} {E : Ends} {σ : L2.St} {H : Hp} (hf : c.fx i = false) (h : tS c (sSet i f) W E σ H) : tE c f W σ H fun x H1 => E.nx (σ.set i (some x)) H1 := by
  refine onE_sound h fun {h τ1 v F1 H1 A S1} sa r nd q => ?_
  cases h with
  | slot j => exact q.elim
  | val d =>
    obtain ⟨S', sa', hm⟩ := sa.put r nd hf
    exact (show PostS c W E F1 H1 (A ++ S1) (.nx (τ1.set i d)) from q) _ F1 H1 S' (Go.less Go.refl hm) sa'
theorem s_set {i : Nat} {x : Str} {p' : Pos} (hN : X.N.Nodup) (hi : X.N[i]? = some x) (hx : Loc X.env.scope x) (hf : c.fx i = false) (he : Tr X c e f) (hs : swapsWith e (some (.Name x p')) pos.line X.env = pure false := by rfl)
    (hfn : X.fn x = true ∨ X.env.scope.names.lookup x = some .local := by first | exact .inl rfl | exact .inr rfl | assumption) : Ts X c (.Assign [.Name x p'] e pos) (sSet i f) :=
  ⟨fun W tk => ps_mono (ps_set hN hi hx (he.pe W tk) hs hfn) fun E σ H h => sSet_sound hf h⟩

/-! ### while -/
def sWhile : Nat → Den Bool → SDen → SDen
  | 0, _, _ => fun _ => .bad
  | n + 1, t, p => fun τ => onT (t τ) fun b τ1 => if b = true then (match p τ1 with
    | .nx τ2 => sWhile n t p τ2
    | .ct τ2 => sWhile n t p τ2
    | .bk τ2 => .nx τ2
    | r => r) else .nx τ1
theorem s_while {n : Nat} (hp : PassesOwn (model X.prog X.w) X.A X.env X.xe) (ht : TrT X c e t) (h1 : Tss X c sts p) : Ts X c (.While e sts [] pos) (sWhile n t p) := by
  refine ⟨fun W tk => ps_mono (ps_while hp (ht.pt W tk) (h1.pss W tk)) fun E σ H h => ?_⟩
  refine ⟨fun m σ' H' => tS c (sWhile m t p) W E σ' H', ⟨n, h⟩, fun m σ' H' h => ?_⟩
  cases m with
  | zero =>
    obtain ⟨τ, F, S, sa, h⟩ := h
    exact h.elim
  | succ m =>
    refine onT_sound h fun {b τ1 F1 H1 S1} sa q => ?_
    cases b with
    | false => exact iteF ((show PostS c W E F1 H1 S1 (.nx τ1) from q) σ' F1 H1 S1 Go.refl sa)
    | true =>
      refine iteT ⟨fun σ2 H2 => tS c (sWhile m t p) W E σ2 H2, fun σ2 H2 h2 => ⟨m, Nat.lt_succ_self m, h2⟩, τ1, F1, S1, sa, ?_⟩
      have q : PostS c W E F1 H1 S1 (match p τ1 with
        | .nx τ2 => sWhile m t p τ2
        | .ct τ2 => sWhile m t p τ2
        | .bk τ2 => .nx τ2
        | r => r) := q
      cases e1 : p τ1 with
      | nx τ2 =>
        rw [e1] at q
        exact fun σ2 F2 H2 S2 go sa2 => ⟨τ2, F2, S2, sa2, PostS.step (A := []) go q⟩
      | ct τ2 =>
        rw [e1] at q
        exact fun σ2 F2 H2 S2 go sa2 => ⟨τ2, F2, S2, sa2, PostS.step (A := []) go q⟩
      | bk τ2 => rw [e1] at q; exact q
      | rt d τ2 => rw [e1] at q; exact q
      | ex x d τ2 => rw [e1] at q; exact q
      | bad => rw [e1] at q; exact q
end
end Y
end

section
set_option Elab.async false
set_option linter.all false
set_option maxRecDepth 100000
set_option maxHeartbeats 4000000
/-! YE: enumerate over a tuple. -/
namespace PySem
open Sem (wp)
open AutoSeq1 (wpAny_loadPart')
theorem meets_enumerate_newT (l : Addr) (items : Array Value) (n : Nat) (dct : Option Addr) (sl : Array (Option Value)) :
    Meets (Builtin.«enumerate.__new__» ⟨[.type "enumerate", .ref l], []⟩) (fun _ R s => s.heap.get? l = some { cls := .type "tuple", dict := dct, data := .seq items n, slots := sl } ∧
      R (.ok (.ret (.ref (s.heap.push { cls := .type "tuple_iterator", data := .fields #[.ref l, .int 0 0] }).objs.size)))
        { s with heap := (s.heap.push { cls := .type "tuple_iterator", data := .fields #[.ref l, .int 0 0] }).push { cls := .type "enumerate", data := .fields #[.none, .bool false, .ref s.heap.objs.size, rawInt 0, .none, .none] } }) :=
  .of_wp fun prog w A R s h => by
    obtain ⟨hp, g, d, tk, os⟩ := s; obtain ⟨hl, h⟩ := h
    have hsub := sub_enumerate
    have hL : Heap.IsTuple (Shared.heap ⟨hp, g, d, tk, os⟩) l items := ⟨_, hl, rfl, n, rfl⟩
    wp_walk using wpAny_loadPart' hl
    refine wpAny_stack_any fun st => wpAny_pure ?_
    split
    · rename_i c _ _ _ _ _
      cases (c == Value.type "enumerate")
      · wp_walk using wpAny_loadPart' hl, wpAny_pyIter_tuple hL
        exact ⟨_, rfl, h⟩
      · wp_walk using wpAny_loadPart' hl, wpAny_pyIter_tuple hL
        exact ⟨_, rfl, h⟩
    · wp_walk using wpAny_loadPart' hl, wpAny_pyIter_tuple hL
      exact ⟨_, rfl, h⟩
section
variable {prog : Program} {w : World} {A : Around} {E : Value → Shared → Prop} {s : Shared}
theorem call_enumerate_tup {l : Addr} {items : Array Value} {Q : Value → Shared → Prop} (hL : s.heap.IsTuple l items)
    (h : ∀ h', IsEnum h' (s.heap.objs.size + 1) s.heap.objs.size 0 .none → h'.IsTupleIter s.heap.objs.size l 0 → h'.objs.size = s.heap.objs.size + 2 →
      (∀ b o, s.heap.get? b = some o → h'.get? b = some o) → Q (.ref (s.heap.objs.size + 1)) { s with heap := h' }) :
    wpAny (model prog w) A (call (.type "enumerate") [.ref l]) Q E s := by
  obtain ⟨⟨c, dct, dt, sl⟩, hl, hc, n, hd⟩ := hL
  replace hc : c = .type "tuple" := hc
  replace hd : dt = .seq items n := hd
  subst hc hd
  refine callType_new F.called_enumerate (by decide) (F.typeCall_enumerate_1 _) (F.newCall_enumerate_1 _) (fun obj => F.args_object_init_2 obj _) F.entry_enumerate_new
    (meets_enumerate_newT l items n dct sl) ⟨hl, ?_⟩
  have hz : (s.heap.push { cls := .type "tuple_iterator", data := .fields #[.ref l, .int 0 0] }).objs.size = s.heap.objs.size + 1 := Heap.size_push ..
  show _ ∧ _
  rw [hz]
  have he : IsEnum ((s.heap.push { cls := .type "tuple_iterator", data := .fields #[.ref l, .int 0 0] }).push
      { cls := .type "enumerate", data := .fields #[.none, .bool false, .ref s.heap.objs.size, rawInt 0, .none, .none] }) (s.heap.objs.size + 1) s.heap.objs.size 0 .none := by
    have := Heap.get?_push_size (s.heap.push { cls := .type "tuple_iterator", data := .fields #[.ref l, .int 0 0] })
      (o := { cls := .type "enumerate", data := .fields #[.none, .bool false, .ref s.heap.objs.size, rawInt 0, .none, .none] }) rfl
    rw [hz] at this; exact this
  refine ⟨⟨_, he, rfl⟩, h _ he ⟨_, Heap.get?_push_of_some _ (Heap.get?_push_size _ rfl), rfl, rfl⟩ (by rw [Heap.size_push, hz]) fun b o x => Heap.get?_push_of_some _ (Heap.get?_push_of_some _ x)⟩
theorem wpAny_pyNext_enum_endT {e it l : Addr} {i : Nat} {items : Array Value} {old : Value} {Q : Option Value → Shared → Prop} (hh : A.handled = none)
    (he : IsEnum s.heap e it i old) (hit : s.heap.IsTupleIter it l i) (hl : s.heap.IsTuple l items) (hx : items[i]? = none)
    (hQ : ∀ h', Heap.ExtBut it s.heap h' → Q none { s with heap := h' }) : wpAny (model prog w) A (pyNext (.ref e)) Q E s := by
  have hT : s.TypeIs (.ref e) "enumerate" := ⟨_, he, rfl⟩
  unfold pyNext
  refine wpAny_bind (wpAny_attempt (wpAny_callSpecial?_slot (name := Str.ofString "__next__") hT F.slot_enumerate_next
    (wpAny_call_entry F.slot_enumerate_next hT F.entry_enumerate_next ?_ (F.args_enumerate_next_1 _))))
  show wpAny _ _ (field (.ref e) 2 >>= _) _ _ _
  refine wpAny_bind (wpAny_field he rfl (x := .ref it) rfl ?_)
  refine wpAny_bind (wpAny_nextOf_tuple_end hh hit hl hx fun h' x he' hx' => ?_)
  obtain ⟨o, ho, hc⟩ := hx'
  refine wpAny_bind (wpAny_isInstance (T := "StopIteration") (b := true) ⟨o, ho, hc⟩ isSubtype_stop ?_)
  exact wpAny_pure (hQ _ he')
end
end PySem
namespace L2
open PySem PySem.Spec PyProof.Rows
/-- the tuple at a, each item in a new pair -/
def IteT (K : PySem.W.Frag) (a : Addr) : It :=
  ⟨fun i H => ∃ (xs : List V) (x : V), SqT K H a xs ∧ xs[i]? = some x, fun i H v H' => ∃ T x, v = .ref T ∧ H T = none ∧ H' = upd H T (.tup [.int (i : Nat), x]) ∧ ∀ xs, SqT K H a xs → xs[i]? = some x, fun i H => ∃ xs : List V, SqT K H a xs ∧ xs.length ≤ i⟩
theorem turn_enumT {P : Program} {w : World} {K : PySem.W.Frag} {elts : List Expr} {kk : Nat} {tpos : Pos} (a e it : Addr) :
    Turn P w K (.Tuple elts kk tpos) (IteT K a) [e, it] e (fun i h => (∃ old, IsEnum h e it ((i : Nat) : Int) old) ∧ h.IsTupleIter it a i ∧ e ≠ it) where
  mem := by simp
  obj := fun i h st b hb => by
    obtain ⟨⟨old, he⟩, ⟨o, ho, hc, hd⟩, _⟩ := st
    have e' : b = e ∨ b = it := by simpa using hb
    rcases e' with z | z
    · rw [z]; exact ⟨_, he, fun v q => nomatch q⟩
    · rw [z]; exact ⟨o, ho, fun v q => by rw [hd] at q; cases q⟩
  keep := fun i h h' st k => let ⟨⟨old, he⟩, hi, hne⟩ := st; ⟨⟨old, k e (by simp) _ he⟩, hi.at fun o q => k it (by simp) o q, hne⟩
  item := by
    intro X hP hw hK hc i pins s σ H E I hf st hg
    subst hP hw hK
    obtain ⟨⟨old, he⟩, hit, hne⟩ := st
    obtain ⟨xs, x, hq, hx⟩ := hg
    obtain ⟨its, rv, p, hz⟩ := I.tuple hq
    obtain ⟨u, hu, ru⟩ := rv.get hx
    have hel : e < s.heap.objs.size := Heap.lt_size he
    have hil : it < s.heap.objs.size := by obtain ⟨_, q, _⟩ := hit; exact Heap.lt_size q
    obtain ⟨oa, ha, hca, na, hda⟩ := id p
    have hae : a ≠ e := fun z => by
      rw [z] at ha
      rw [he] at ha
      cases ha
      exact absurd (Value.type.inj hca) (by decide)
    have hai : a ≠ it := fun z => by
      obtain ⟨oi, hoi, hci, _⟩ := hit
      rw [z, hoi] at ha
      cases ha
      rw [hci] at hca
      exact absurd (Value.type.inj hca) (by decide)
    have hlt : i < its.toArray.size := by
      have := (List.getElem?_eq_some_iff.mp hu).1
      simpa using this
    refine wpAny_pyNext_enum_itemD (Draws.tuple (A := X.A.in1) (I.ok.hd hc) it a hai its.toArray) he ⟨hit, p⟩ hlt hne (by simp [hne, Ne.symm hae]) fun y h' tk hy ho hst hT hsz hk => ?_
    have ey : y = u := by
      have h2 : its.toArray[i]? = some y := hy
      have h3 : its[i]? = some y := by simpa using h2
      rw [hu] at h3
      exact (Option.some.inj h3).symm
    subst ey
    refine ⟨_, rfl, wpAny_letOwnedTupleGo_enum (s := { s with heap := h', toks := tk + 1 }) ho fun h'' he' sb => ?_⟩
    have hT2 : h''.get? s.heap.objs.size = some { cls := .type "tuple", data := .seq #[.int i tk, y] } := (sb.2 _ (Nat.ne_of_gt hel)).trans hT
    have new : ObjOk X.prog X.w (upd H s.heap.objs.size (.tup [.int (i : Nat), x])) h'' s.heap.objs.size (.tup [.int (i : Nat), x]) :=
      ⟨by show 2 ≤ sizeLine; decide, [.int i tk, y], .cons ⟨_, rfl⟩ (.cons ru .nil), ⟨_, hT2, rfl, _, rfl⟩⟩
    have I1 : Inv X pins σ (upd H s.heap.objs.size (.tup [.int (i : Nat), x])) { s with heap := h'', toks := tk + 1 } :=
      I.turnedNew (ch := [e, it]) (fun b ob hb q => (sb.2 b (fun z => hb (by simp [z]))).trans (hk b ob (fun z => hb (by simp [z])) (fun z => hb (by simp [z])) q)) hf (Nat.le_refl _) new
    refine ⟨.ref s.heap.objs.size, _, I1, rfl, ⟨_, x, rfl, I.hok.fresh (Nat.le_refl _), rfl, fun ys hy => by rw [I.tuple_inj hy hq]; exact hx⟩, ⟨⟨y, ?_⟩, hst.1.at fun o q => (sb.2 it (Ne.symm hne)).trans q, hne⟩, fun b hb => ?_⟩
    · have e1 : ((i + 1 : Nat) : Int) = (i : Int) + 1 := by omega
      rw [e1]; exact he'
    · have hb' : b < s.heap.objs.size := by
        have e' : b = e ∨ b = it := by simpa using hb
        rcases e' with z | z
        · rw [z]; exact hel
        · rw [z]; exact hil
      rw [upd_ne (Nat.ne_of_lt hb')]
      exact (hf b hb).1
  done := by
    intro X hP hw hK hc i pins s σ H E I hf st hg
    subst hP hw hK
    obtain ⟨⟨old, he⟩, hit, hne⟩ := st
    obtain ⟨xs, hq, hx⟩ := hg
    obtain ⟨its, rv, p, hz⟩ := I.tuple hq
    obtain ⟨f0, f1, f2, f3, f4, f5⟩ := hf it (by simp)
    have hl := rv.length
    exact wpAny_pyNext_enum_endT (I.ok.hd hc) he hit p (by simp; omega) fun h' eb => ⟨rfl, I.turned (t' := s.toks) (fun b o hb q => eb b o hb q) f0 f1 f3 f4 f5⟩
  self := fun A i s Q E st h => let ⟨⟨_, he⟩, _⟩ := st; wpAny_pyIter_enum he h
/-- enumerate(x), x a list or a tuple -/
def iEnumA (K : PySem.W.Frag) (ta : TA) : TI := fun σ H R => ta σ H fun vs H1 => ∃ a xs, vs = [.ref a] ∧ ((SqL K H1 a xs ∧ R (Ite K a) H1) ∨ (SqT K H1 a xs ∧ R (IteT K a) H1))
theorem pi_enumA {X : Cx} {e : Expr} {ta : TA} {p pos tpos : Pos} {elts : List Expr} {kk : Nat} (hg : Gl X "enumerate") (hm : X.mg "enumerate" = none) (ha : PA X [e] ta) (hs : starEach [e] X.env = [(false, eval e X.env)] := by rfl) :
    PI X (.Tuple elts kk tpos) (.Call (.Name "enumerate" p) [e] [] pos) (iEnumA X.K ta) := by
  refine ⟨fun pins s σ H R I h => ?_⟩
  refine Call_ (ld_blt I hg hm boot_enumerate (PyProof.Rows.callWith_type1 (thn (ha.run pos pins s σ H _ I h) fun us s1 ⟨vs, H1, I1, r1, q1⟩ => ?_) hs rfl))
  obtain ⟨a, xs, ex, hq⟩ := q1
  subst ex
  cases r1 with
  | cons r rr =>
    cases rr
    cases r
    have fp : ∀ b ∈ [s1.heap.objs.size + 1, s1.heap.objs.size], FpOk X pins H1 b := fun b hb => by
      have e' : b = s1.heap.objs.size + 1 ∨ b = s1.heap.objs.size := by simpa using hb
      have hle : s1.heap.objs.size ≤ b := by
        rcases e' with z | z
        · rw [z]; exact Nat.le_add_right _ _
        · rw [z]; exact Nat.le_refl _
      exact I1.fpOk hle (I1.hok.fresh hle)
    rcases hq with ⟨hq, q⟩ | ⟨hq, q⟩
    · obtain ⟨its, rv, p', hz⟩ := I1.list hq
      refine call_enumerate_list p'.isList fun h' he hit hsz hk => wpAny_pyIter_enum he ?_
      have I2 : Inv X pins σ H1 { s1 with heap := h' } := I1.kept (t' := s1.toks) hk
      exact ⟨s1.heap.objs.size + 1, [s1.heap.objs.size + 1, s1.heap.objs.size], _, _, H1, rfl, I2, turn_enum a (s1.heap.objs.size + 1) s1.heap.objs.size, ⟨⟨.none, he⟩, hit, Nat.succ_ne_self _⟩, fp, q⟩
    · obtain ⟨its, rv, p', hz⟩ := I1.tuple hq
      refine call_enumerate_tup p' fun h' he hit hsz hk => wpAny_pyIter_enum he ?_
      have I2 : Inv X pins σ H1 { s1 with heap := h' } := I1.kept (t' := s1.toks) hk
      exact ⟨s1.heap.objs.size + 1, [s1.heap.objs.size + 1, s1.heap.objs.size], _, _, H1, rfl, I2, turn_enumT a (s1.heap.objs.size + 1) s1.heap.objs.size, ⟨⟨.none, he⟩, hit, Nat.succ_ne_self _⟩, fp, q⟩
end L2
end

section
set_option Elab.async false
set_option linter.all false
set_option maxRecDepth 100000
set_option maxHeartbeats 4000000
/-! Y6: targets, walks, for, comprehensions. -/
namespace Y
open PySem PySem.Spec PyProof.Rows L2

/-! ### targets -/
/-- but for the slots ow all is as it was -/
def Keep (ow : List Nat) (σ σ' : L2.St) : Prop := σ'.length = σ.length ∧ ∀ j, j ∉ ow → σ'[j]? = σ[j]?
def tG (c : Ctx) (ow : List Nat) (t : D → List D → Option (List D)) : TG := fun v σ H Q => ∃ τ F S d A, SA c F H σ τ S ∧ Rel c F H d v A ∧ (A ++ S).Nodup ∧ ∃ τ', t d τ = some τ' ∧ ∀ σ' S', SA c F H σ' τ' S' → (∀ b ∈ S', b ∈ A ++ S) → Keep ow σ σ' → Q σ' H
def tGs (c : Ctx) (ow : List Nat) (t : List D → List D → Option (List D)) : TGs := fun vs σ H Q => ∃ τ F S ds A, SA c F H σ τ S ∧ Rels c F H ds vs A ∧ (A ++ S).Nodup ∧ ∃ τ', t ds τ = some τ' ∧ ∀ σ' S', SA c F H σ' τ' S' → (∀ b ∈ S', b ∈ A ++ S) → Keep ow σ σ' → Q σ' H
structure TrG (X : Cx) (c : Ctx) (e : Expr) (ow : List Nat) (t : D → List D → Option (List D)) : Prop where
  pg : PG X e (tG c ow t)
structure TrGs (X : Cx) (c : Ctx) (es : List Expr) (ow : List Nat) (t : List D → List D → Option (List D)) : Prop where
  pgs : PGs X es (tGs c ow t)
theorem pg_mono {X : Cx} {e : Expr} {t t' : TG} (h : PG X e t) (k : ∀ v σ H Q, t' v σ H Q → t v σ H Q) : PG X e t' := ⟨fun pins s σ H v u Q I r q => h.run pins s σ H v u Q I r (k v σ H Q q)⟩
theorem pgs_mono {X : Cx} {e : List Expr} {t t' : TGs} (h : PGs X e t) (k : ∀ v σ H Q, t' v σ H Q → t v σ H Q) : PGs X e t' := ⟨fun pins s σ H v u Q I r q => h.run pins s σ H v u Q I r (k v σ H Q q)⟩
def gN (i : Nat) : D → List D → Option (List D) := fun d τ => some (τ.set i d)
def gNo : List D → List D → Option (List D) := fun ds τ => match ds with
  | [] => some τ
  | _ :: _ => none
def gC (t : D → List D → Option (List D)) (u : List D → List D → Option (List D)) : List D → List D → Option (List D) := fun ds τ => match ds with
  | [] => none
  | d :: ds => match t d τ with
    | some τ1 => u ds τ1
    | none => none
def gT (n : Nat) (u : List D → List D → Option (List D)) : D → List D → Option (List D) := fun d τ => match d with
  | .tup ds => if ds.length = n then u ds τ else none
  | _ => none
section
variable {X : Cx} {c : Ctx} {a b e : Expr} {rest es : List Expr} {f f1 f2 f3 : Den Hdl} {g : Den (List Hdl)} {pos : Pos} {st : Stmt} {sts sts2 : List Stmt} {p q : SDen} {t : D → List D → Option (List D)} {u : List D → List D → Option (List D)}
theorem g_name {i : Nat} {x : Str} (hN : X.N.Nodup) (hi : X.N[i]? = some x) (hx : Loc X.env.scope x) (hf : c.fx i = false) (hfn : X.fn x = true ∨ X.env.scope.names.lookup x = some .local := by first | exact .inl rfl | exact .inr rfl | assumption) : TrG X c (.Name x pos) [i] (gN i) := by
  refine ⟨pg_mono (pg_name hN hi hx hfn) fun v σ H Q h => ?_⟩
  obtain ⟨τ, F, S, d, A, sa, r, nd, τ', e, k⟩ := h
  cases e
  obtain ⟨S', sa', hm⟩ := sa.put r nd hf
  exact k _ S' sa' hm ⟨List.length_set, fun j hj => List.getElem?_set_ne fun z => hj (by simp [z])⟩
theorem gs_nil : TrGs X c [] [] gNo := by
  refine ⟨pgs_mono pgs_nil fun v σ H Q h => ?_⟩
  obtain ⟨τ, F, S, ds, A, sa, r, nd, τ', e, k⟩ := h
  cases ds with
  | cons _ _ => cases e
  | nil =>
    cases e
    obtain ⟨rfl, rfl⟩ := r
    exact ⟨rfl, k σ S sa (fun b hb => hb) ⟨rfl, fun _ _ => rfl⟩⟩
theorem gs_cons {o1 o2 : List Nat} (h1 : TrG X c e o1 t) (h2 : TrGs X c es o2 u) (hs : (assignEach (e :: es) X.env).map (·.2) = assign e X.env :: (assignEach es X.env).map (·.2) := by rfl) : TrGs X c (e :: es) (o1 ++ o2) (gC t u) := by
  refine ⟨pgs_mono (pgs_cons h1.pg h2.pgs hs) fun v σ H Q h => ?_⟩
  obtain ⟨τ, F, S, ds, A, sa, r, nd, τ', e, k⟩ := h
  cases ds with
  | nil => cases e
  | cons d ds =>
    obtain ⟨w, ws, A1, A2, rfl, rfl, r1, r2⟩ := r
    have e : (match t d τ with
      | some τ1 => u ds τ1
      | none => none) = some τ' := e
    cases e1 : t d τ with
    | none => rw [e1] at e; cases e
    | some τ1 =>
      rw [e1] at e
      have n1 := List.nodup_append.mp nd
      have n2 := List.nodup_append.mp n1.1
      refine ⟨w, ws, rfl, τ, F, S, d, A1, sa, r1, List.nodup_append.mpr ⟨n2.1, n1.2.1, fun x hx y hy => n1.2.2 x (List.mem_append_left _ hx) y hy⟩, τ1, e1, fun σ1 S1 sa1 hm1 kp1 => ?_⟩
      have nd2 : (A2 ++ S1).Nodup := List.nodup_append.mpr ⟨n2.2.1, sa1.nd, fun x hx y hy z => by
        subst z
        rcases List.mem_append.mp (hm1 x hy) with z | z
        · exact n2.2.2 x z x hx rfl
        · exact n1.2.2 x (List.mem_append_right _ hx) x z rfl⟩
      refine ⟨τ1, F, S1, ds, A2, sa1, r2, nd2, τ', e, fun σ2 S2 sa2 hm2 kp2 => k σ2 S2 sa2 (fun b hb => ?_) ⟨kp2.1.trans kp1.1, fun j hj => (kp2.2 j fun z => hj (List.mem_append_right _ z)).trans (kp1.2 j fun z => hj (List.mem_append_left _ z))⟩⟩
      rcases List.mem_append.mp (hm2 b hb) with z | z
      · exact List.mem_append_left _ (List.mem_append_right _ z)
      · rcases List.mem_append.mp (hm1 b z) with z | z
        · exact List.mem_append_left _ (List.mem_append_left _ z)
        · exact List.mem_append_right _ z
theorem g_tup {k n : Nat} {ow : List Nat} (hK : c.K = X.K) (hc : X.calm = true) (h : TrGs X c es ow u) (hn : (assignEach es X.env).length = n := by rfl) (hst : (assignEach es X.env).findIdx? (·.1) = none := by rfl) : TrG X c (.Tuple es k pos) ow (gT n u) := by
  refine ⟨pg_mono (pg_tup hc h.pgs hn hst) fun v σ H Q h => ?_⟩
  obtain ⟨τ, F, S, d, A, sa, r, nd, τ', e, k⟩ := h
  cases d <;> first | (cases e; done) | skip
  rename_i ds
  have e : (if ds.length = n then u ds τ else none) = some τ' := e
  split at e <;> first | (cases e; done) | skip
  rename_i hl
  obtain ⟨p, vs, rfl, h1, r⟩ := r
  exact ⟨p, vs, rfl, by rw [← hK]; exact sqT_sub sa.ex h1, by rw [r.length]; exact hl, τ, F, S, ds, A, sa, r, nd, τ', e, k⟩
/-- target = e -/
def sAsg (f : Den Hdl) (t : D → List D → Option (List D)) : SDen := fun τ => onE (f τ) fun h τ1 => match h with
  | .val d => match t d τ1 with
    | some τ2 => .nx τ2
    | none => .bad
  | .slot _ => .bad
theorem s_asg {tg : Expr} {ow : List Nat} (he : Tr X c e f) (hg : TrG X c tg ow t) (hs : swapsWithSole [tg] e pos.line X.env = pure false := by rfl) (hw : swappedStores [tg] e X.env = pure none := by rfl) (h1 : (assignEach [tg] X.env).map (·.2) = [assign tg X.env] := by rfl) : Ts X c (.Assign [tg] e pos) (sAsg f t) := by
  refine ⟨fun W tk => ps_mono (ps_asg (he.pe W tk) hg.pg hs hw h1) fun E σ H h => ?_⟩
  refine onE_sound h fun {h τ1 v F1 H1 A S1} sa r nd q => ?_
  cases h with
  | slot j => exact q.elim
  | val d =>
    have q : PostS c W E F1 H1 (A ++ S1) (match t d τ1 with
      | some τ2 => .nx τ2
      | none => .bad) := q
    cases e1 : t d τ1 with
    | none => rw [e1] at q; exact q.elim
    | some τ2 =>
      rw [e1] at q
      exact ⟨τ1, F1, S1, d, A, sa, r, nd, τ2, e1, fun σ' S' sa' hm _ => q σ' F1 H1 S' (Go.less Go.refl hm) sa'⟩
/-- a, b = e1, e2, plain local names -/
def sPar (i j : Nat) (g : Den (List Hdl)) : SDen := fun τ => match g τ with
  | .ok [.val d, .val d2] τ1 => .nx ((τ1.set i d).set j d2)
  | .ok _ _ => .bad
  | .ex n d τ1 => .ex n d τ1
  | .bad => .bad
theorem s_par {i j : Nat} {x y : Str} {px py pt : Pos} {kt k2 pt2} (hc : X.calm = true) (hN : X.N.Nodup) (hi : X.N[i]? = some x) (hj : X.N[j]? = some y) (hij : i ≠ j) (hfi : c.fx i = false) (hfj : c.fx j = false)
    (hx : X.env.scope.names.lookup x = some .local) (hy : X.env.scope.names.lookup y = some .local) (ha : TrA X c [a, b] g)
    (hw : swappedStores [.Tuple [.Name x px, .Name y py] kt pt] (.Tuple [a, b] k2 pt2) X.env = pure (some [x, y]) := by rfl)
    (hs : swapsWithSole [.Tuple [.Name x px, .Name y py] kt pt] (.Tuple [a, b] k2 pt2) pos.line X.env = pure false := by rfl) :
    Ts X c (.Assign [.Tuple [.Name x px, .Name y py] kt pt] (.Tuple [a, b] k2 pt2) pos) (sPar i j g) := by
  refine ⟨fun W tk => ps_mono (ps_par hc hN hi hj hij hx hy (ha.pa W tk) hw hs) fun E σ H h => ?_⟩
  obtain ⟨τ, F, S, sa, h⟩ := h
  refine ⟨τ, F, S, sa, ?_⟩
  unfold sPar at h
  cases e1 : g τ with
  | bad => rw [e1] at h; exact h
  | ex n d τ' =>
    rw [e1] at h
    intro cv dx F' H' S' go sa' x
    exact (show PostS c W E F H S (.ex n d τ') from h) cv dx σ F' H' S' go sa' x
  | ok hs τ1 =>
    rw [e1] at h
    intro vs F1 H1 A1 S1 g1 sa1 r1 nd1
    match hs, h, r1 with
    | [], h, _ => exact h.elim
    | [.val _], h, _ => exact h.elim
    | .slot _ :: _, h, _ => exact h.elim
    | .val _ :: .slot _ :: _, h, _ => exact h.elim
    | .val _ :: .val _ :: _ :: _, h, _ => exact h.elim
    | [.val d, .val d2], h, r1 =>
      obtain ⟨v, ws, B1, C1, rfl, rfl, q1, r2⟩ := r1
      obtain ⟨v2, ws2, B2, C2, rfl, rfl, q2, r3⟩ := r2
      obtain ⟨rfl, rfl⟩ := r3
      rw [List.append_nil] at nd1 g1
      have n1 := List.nodup_append.mp nd1
      have n2 := List.nodup_append.mp n1.1
      obtain ⟨S2, sa2, hm2⟩ := sa1.put (i := i) (d := d) (v := v) (A := B1) q1 (List.nodup_append.mpr ⟨n2.1, n1.2.1, fun x hx y hy => n1.2.2 x (List.mem_append_left _ hx) y hy⟩) hfi
      obtain ⟨S3, sa3, hm3⟩ := sa2.put (i := j) (d := d2) (v := v2) (A := B2) q2 (List.nodup_append.mpr ⟨n2.2.1, sa2.nd, fun x hx y hy z => by
        subst z
        rcases List.mem_append.mp (hm2 x hy) with z | z
        · exact n2.2.2 x z x hx rfl
        · exact n1.2.2 x (List.mem_append_right _ hx) x z rfl⟩) hfj
      refine ⟨v, v2, rfl, (show PostS c W E F H S (.nx ((τ1.set i d).set j d2)) from h) _ F1 H1 S3 (Go.less g1 fun b hb => ?_) sa3⟩
      rcases List.mem_append.mp (hm3 b hb) with z | z
      · exact List.mem_append_left _ (List.mem_append_right _ z)
      · rcases List.mem_append.mp (hm2 b z) with z | z
        · exact List.mem_append_left _ (List.mem_append_left _ z)
        · exact List.mem_append_right _ z

/-! ### walks -/
structure Yld (c : Ctx) (J : It) (F0 : Hp) (ds : List D) : Prop where
  go : ∀ i H, (∀ b o, F0 b = some o → H b = some o) → i < ds.length → J.go i H
  stop : ∀ i H, (∀ b o, F0 b = some o → H b = some o) → ds.length ≤ i → J.stop i H
  yld : ∀ i F H x H', (∀ b o, F0 b = some o → F b = some o) → (∀ b o, F b = some o → H b = some o) → i < ds.length → J.yld i H x H' → ∃ d F', ds[i]? = some d ∧ Grow F H F' H' [] ∧ Rel c F' H' d x []
def tI (c : Ctx) (f : Den (List D)) (W : WX) : TI := fun σ H R => ∃ τ F S, SA c F H σ τ S ∧ match f τ with
  | .ok ds τ' => ∀ J F' H' S', Go F H S F' H' S' → SA c F' H' σ τ' S' → Yld c J F' ds → R J H'
  | .ex n d τ' => ∀ cv dx F' H' S', Go F H S F' H' S' → SA c F' H' σ τ' S' → ExP c F' H' n d cv dx → W cv dx σ H'
  | .bad => False
structure TrI (X : Cx) (c : Ctx) (tg e : Expr) (f : Den (List D)) : Prop where
  pi : ∀ W, L2N.Takes X W → PI X tg e (tI c f W)
theorem pi_mono {tg : Expr} {t t' : TI} (h : PI X tg e t) (k : ∀ σ H Q, t' σ H Q → t σ H Q) : PI X tg e t' := ⟨fun pins s σ H Q I q => h.run pins s σ H Q I (k σ H Q q)⟩
/-- for target in source -/
def forL (t : D → List D → Option (List D)) (p : SDen) : List D → SDen
  | [] => .nx
  | d :: ds => fun τ => match t d τ with
    | some τ1 => (match p τ1 with
      | .nx τ2 => forL t p ds τ2
      | .ct τ2 => forL t p ds τ2
      | .bk τ2 => .nx τ2
      | r => r)
    | none => .bad
def sFor (f : Den (List D)) (t : D → List D → Option (List D)) (p : SDen) : SDen := fun τ => match f τ with
  | .ok ds τ1 => forL t p ds τ1
  | .ex n d τ1 => .ex n d τ1
  | .bad => .bad
theorem drop_at {α : Type} {l : List α} {i : Nat} {x : α} (h : l[i]? = some x) : l.drop i = x :: l.drop (i + 1) := by
  obtain ⟨h1, h2⟩ := List.getElem?_eq_some_iff.mp h
  rw [List.drop_eq_getElem_cons h1, h2]
theorem s_for {tg iter : Expr} {ow : List Nat} {fi : Den (List D)} (hp : PassesOwn (model X.prog X.w) X.A X.env X.xe) (hc : X.calm = true) (hi : TrI X c tg iter fi) (hg : TrG X c tg ow t) (hb : Tss X c sts p)
    (hs : ∀ x, foldedSetIterable iter X.env x = pure x := by intro _; rfl) : Ts X c (.For tg iter sts [] pos) (sFor fi t p) := by
  refine ⟨fun W tk => ps_mono (ps_for hp hc (hi.pi W tk) hg.pg (hb.pss W tk) hs) fun E σ H h => ?_⟩
  obtain ⟨τ, F, S, sa, h⟩ := h
  refine ⟨τ, F, S, sa, ?_⟩
  unfold sFor at h
  cases e1 : fi τ with
  | bad => rw [e1] at h; exact h
  | ex n d τ' =>
    rw [e1] at h
    intro cv dx F' H' S' go sa' x
    exact (show PostS c W E F H S (.ex n d τ') from h) cv dx σ F' H' S' go sa' x
  | ok ds τ1 =>
    rw [e1] at h
    intro J F1 H1 S1 g1 sa1 y
    have h1 := PostS.step (A := []) g1 (show PostS c W E F H S (forL t p ds τ1) from h)
    refine ⟨fun i m σ' H' => m = ds.length - i ∧ ∃ τ' F' S', (∀ b o, F1 b = some o → F' b = some o) ∧ SA c F' H' σ' τ' S' ∧ PostS c W E F' H' S' (forL t p (ds.drop i) τ'), ⟨ds.length, rfl, τ1, F1, S1, fun _ _ h => h, sa1, h1⟩, ?_⟩
    rintro i m σ2 H2 ⟨rfl, τ2, F2, S2, ff, sa2, h2⟩
    have fh : ∀ b o, F1 b = some o → H2 b = some o := fun b o z => sa2.ex b o (ff b o z)
    by_cases hlt : i < ds.length
    · refine .inr ⟨y.go i H2 fh hlt, fun σ' H' => ∃ τ' F' S', (∀ b o, F1 b = some o → F' b = some o) ∧ SA c F' H' σ' τ' S' ∧ PostS c W E F' H' S' (forL t p (ds.drop (i + 1)) τ'), fun σ' H' q => ⟨ds.length - (i + 1), by omega, rfl, q⟩, fun x H3 hy => ?_⟩
      obtain ⟨d, F3, hd, gr, rr⟩ := y.yld i F2 H2 x H3 ff sa2.ex hlt hy
      obtain ⟨sa3, _⟩ := gr.sa sa2
      rw [drop_at hd] at h2
      have h3 := PostS.step (A := []) (gr.go S2) h2
      have h3 : PostS c W E F3 H3 S2 (match t d τ2 with
        | some τ1 => (match p τ1 with
          | .nx τ2 => forL t p (ds.drop (i + 1)) τ2
          | .ct τ2 => forL t p (ds.drop (i + 1)) τ2
          | .bk τ2 => .nx τ2
          | r => r)
        | none => .bad) := h3
      cases e2 : t d τ2 with
      | none => rw [e2] at h3; exact h3.elim
      | some τ3 =>
        rw [e2] at h3
        have h3 : PostS c W E F3 H3 S2 (match p τ3 with
          | .nx τ2 => forL t p (ds.drop (i + 1)) τ2
          | .ct τ2 => forL t p (ds.drop (i + 1)) τ2
          | .bk τ2 => .nx τ2
          | r => r) := h3
        refine ⟨τ2, F3, S2, d, [], sa3, rr, sa3.nd, τ3, e2, fun σ4 S4 sa4 hm4 _ => ⟨τ3, F3, S4, sa4, ?_⟩⟩
        have h4 := PostS.step (A := []) (Go.less (Go.refl (F := F3) (H := H3) (S := S2)) hm4) h3
        have f3 : ∀ b o, F1 b = some o → F3 b = some o := fun b o z => gr.f b o (ff b o z)
        cases e3 : p τ3 with
        | nx τ5 =>
          rw [e3] at h4
          exact fun σ' F' H' S' go sa' => ⟨τ5, F', S', fun b o z => go.f b o (f3 b o z), sa', PostS.step (A := []) go h4⟩
        | ct τ5 =>
          rw [e3] at h4
          exact fun σ' F' H' S' go sa' => ⟨τ5, F', S', fun b o z => go.f b o (f3 b o z), sa', PostS.step (A := []) go h4⟩
        | bk τ5 => rw [e3] at h4; exact h4
        | rt d τ5 => rw [e3] at h4; exact h4
        | ex n d τ5 => rw [e3] at h4; exact h4
        | bad => rw [e3] at h4; exact h4
    · refine .inl ⟨y.stop i H2 fh (by omega), ?_⟩
      rw [List.drop_eq_nil_of_le (by omega)] at h2
      exact (show PostS c W E F2 H2 S2 (.nx τ2) from h2) σ2 F2 H2 S2 Go.refl sa2
end
end Y
end

section
set_option Elab.async false
set_option linter.all false
set_option maxRecDepth 100000
set_option maxHeartbeats 4000000
/-! Y7: what is walked; comprehensions. -/
namespace Y
open PySem PySem.Spec PyProof.Rows L2

section
variable {c : Ctx} {F H F1 H1 : Hp} {σ : L2.St} {τ : List D} {S A : List Addr}
/-- the items of a list or a tuple that is walked -/
def seqOf (h : Hdl) (τ : List D) : Option (List D) := match h, h.get τ with
  | _, .tup xs => if D.pls xs then some xs else none
  | _, .lst false xs => if D.pls xs then some xs else none
  | .val _, .lst true xs => some (D.frzs xs)
  | _, _ => none
structure SeqAt' (c : Ctx) (F H F' : Hp) (a : Addr) (vs : List V) (xs : List D) (σ : L2.St) (τ : List D) (S A : List Addr) : Prop where
  go : Go F H (A ++ S) F' H S
  sa : SA c F' H σ τ S
  rel : Rels c F' H xs vs []
  at_ : F' a = some (.lst vs) ∨ SqT c.K F' a vs
/-- a frozen object more, one that was in hand -/
theorem SA.frz1 (sa : SA c F H σ τ S) {p : Addr} {o : HO} (hp : H p = some o) (hf : F p = none) (hs : p ∉ S) (ht : ∀ ps, o ≠ .tbl ps) : SA c (upd F p o) H σ τ S ∧ (∀ b u, F b = some u → upd F p o b = some u) := by
  have hF : ∀ b u, F b = some u → upd F p o b = some u := fun b u h => by
    rw [upd_ne (ne_of_none h hf)]
    exact h
  refine ⟨⟨fun b u h => ?_, fun b ps h => ?_, fun b u h => hF b u (sa.fb b u h), sa.tb, Slots.mono hF sa.sl fun b hb => ⟨rfl, ?_⟩, sa.nd, sa.fx⟩, hF⟩
  · by_cases hb : b = p
    · subst hb
      rw [upd_same] at h
      cases h
      exact hp
    · rw [upd_ne hb] at h
      exact sa.ex b u h
  · by_cases hb : b = p
    · subst hb
      rw [upd_same] at h
      exact ht ps (Option.some.inj h)
    · rw [upd_ne hb] at h
      exact sa.nt b ps h
  · rw [upd_ne (fun z => hs (by rw [← z]; exact hb))]
    exact (sa.owned b hb).1
/-- what is in hand is given up -/
theorem SA.frzA (sa : SA c F H σ τ S) {d : D} {v : V} (r : Rel c F H d v A) (nd : (A ++ S).Nodup) : ∃ F', (∀ b o, F b = some o → F' b = some o) ∧ Go F H (A ++ S) F' H S ∧ SA c F' H σ τ S ∧ Rel c F' H d.frz v [] := by
  have own := r.owned
  have hF : ∀ b o, F b = some o → (fun b => if b ∈ A then H b else F b) b = some o := fun b o h => by
    show (if b ∈ A then H b else F b) = some o
    by_cases hb : b ∈ A
    · rw [(own b hb).1] at h
      cases h
    · rw [if_neg hb]
      exact h
  refine ⟨fun b => if b ∈ A then H b else F b, hF, ⟨hF, fun b o h _ _ => h, fun b hb => .inl (List.mem_append_right _ hb), fun b o h => ?_⟩, ⟨fun b o h => ?_, fun b ps h => ?_, fun b o h => hF b o (sa.fb b o h), sa.tb, Slots.mono hF sa.sl fun b hb => ⟨rfl, ?_⟩, sa.nd, sa.fx⟩, Rel.froze hF r fun b hb => if_pos hb⟩
  · have h : (if b ∈ A then H b else F b) = some o := h
    by_cases hb : b ∈ A
    · exact .inr (.inl (List.mem_append_left _ hb))
    · rw [if_neg hb] at h
      exact .inl h
  · have h : (if b ∈ A then H b else F b) = some o := h
    by_cases hb : b ∈ A
    · rw [if_pos hb] at h
      exact h
    · rw [if_neg hb] at h
      exact sa.ex b o h
  · have h : (if b ∈ A then H b else F b) = some (.tbl ps) := h
    by_cases hb : b ∈ A
    · rw [if_pos hb] at h
      obtain ⟨_, o, h2, h3⟩ := own b hb
      rw [h2] at h
      exact h3 ps (Option.some.inj h)
    · rw [if_neg hb] at h
      exact sa.nt b ps h
  · have nb : b ∉ A := fun z => (List.nodup_append.mp nd).2.2 b z b hb rfl
    show (if b ∈ A then H b else F b) = none
    rw [if_neg nb]
    exact (sa.owned b hb).1
theorem seqOf_at {h : Hdl} {v : V} {xs : List D} (sa : SA c F H σ τ S) (r : RelH c F H σ h v A) (nd : (A ++ S).Nodup) (e : seqOf h τ = some xs) : ∃ F' a vs, v = .ref a ∧ SeqAt' c F H F' a vs xs σ τ S A := by
  have gl : Go F H (A ++ S) F H S := Go.less Go.refl fun b hb => List.mem_append_right _ hb
  rcases r.get sa with z | ⟨B, q⟩
  · unfold seqOf at e
    rw [z] at e
    cases h <;> cases e
  unfold seqOf at e
  cases hd : h.get τ with
  | tup ds =>
    rw [hd] at e q
    have e : (if D.pls ds then some ds else none) = some xs := by cases h <;> exact e
    split at e <;> cases e
    rename_i hp
    obtain ⟨p, vs, rfl, h1, r1⟩ := q
    have z := r1.pl_nil hp
    subst z
    exact ⟨F, p, vs, rfl, gl, sa, r1, .inr h1⟩
  | lst o ds =>
    rw [hd] at e q
    cases o with
    | false =>
      have e : (if D.pls ds then some ds else none) = some xs := by cases h <;> exact e
      split at e <;> cases e
      rename_i hp
      obtain ⟨p, vs, rfl, h1, _, r1⟩ := q
      exact ⟨F, p, vs, rfl, gl, sa, r1, .inl h1⟩
    | true =>
      cases h with
      | slot i => cases e
      | val d =>
        have e : some (D.frzs ds) = some xs := e
        cases e
        have hd : d = .lst true ds := hd
        subst hd
        obtain ⟨F', hF, g, sa', r'⟩ := sa.frzA r nd
        obtain ⟨p, vs, rfl, h1, _, r1⟩ := (show Rel c F' H (.lst false (D.frzs ds)) v [] from r')
        exact ⟨F', p, vs, rfl, g, sa', r1, .inl h1⟩
  | _ => rw [hd] at e; cases h <;> cases e
theorem yld_list {a : Addr} {vs : List V} {xs : List D} {K : PySem.W.Frag} (hK : c.K = K) (r : Rels c F H xs vs []) (h : F a = some (.lst vs)) : Yld c (Itl K a) F xs := by
  have sq : ∀ {H : Hp}, (∀ b o, F b = some o → H b = some o) → SqL K H a vs := fun e => .inl (.inl (e _ _ h))
  refine ⟨fun i H e hi => ?_, fun i H e hi => ⟨vs, sq e, by rw [r.length]; exact hi⟩, fun i F' H' x H2 e1 e2 hi hy => ?_⟩
  · obtain ⟨v, B, h1, _⟩ := r.at (j := i) (d := xs[i]) (List.getElem?_eq_getElem hi)
    exact ⟨vs, v, sq e, h1⟩
  · obtain ⟨rfl, hy⟩ := hy
    obtain ⟨v, B, h1, h2, hB⟩ := r.at (j := i) (d := xs[i]) (List.getElem?_eq_getElem hi)
    have z : B = [] := List.eq_nil_iff_forall_not_mem.mpr fun b hb => by cases hB b hb
    subst z
    have h3 := hy vs (sq fun b o h => e2 _ _ (e1 _ _ h))
    rw [h1] at h3
    cases h3
    exact ⟨xs[i], F', List.getElem?_eq_getElem hi, Grow.refl e2, Rel.mono e1 h2 fun b hb => by cases hb⟩
theorem yld_tup {a : Addr} {vs : List V} {xs : List D} {K : PySem.W.Frag} (hK : c.K = K) (r : Rels c F H xs vs []) (h : SqT c.K F a vs) : Yld c (Itt K a) F xs := by
  subst hK
  refine ⟨fun i H e hi => ?_, fun i H e hi => ⟨vs, sqT_mono e h, by rw [r.length]; exact hi⟩, fun i F' H' x H2 e1 e2 hi hy => ?_⟩
  · obtain ⟨v, B, h1, _⟩ := r.at (j := i) (d := xs[i]) (List.getElem?_eq_getElem hi)
    exact ⟨vs, v, sqT_mono e h, h1⟩
  · obtain ⟨rfl, hy⟩ := hy
    obtain ⟨v, B, h1, h2, hB⟩ := r.at (j := i) (d := xs[i]) (List.getElem?_eq_getElem hi)
    have z : B = [] := List.eq_nil_iff_forall_not_mem.mpr fun b hb => by cases hB b hb
    subst z
    have h3 := hy vs (sqT_mono (fun b o h => e2 _ _ (e1 _ _ h)) h)
    rw [h1] at h3
    cases h3
    exact ⟨xs[i], F', List.getElem?_eq_getElem hi, Grow.refl e2, Rel.mono e1 h2 fun b hb => by cases hb⟩
/-- lo, lo + k, .. -/
def rgD (lo k : Int) (n : Nat) : List D := (List.range n).map fun i => .int (lo + (i : Nat) * k)
theorem rgD_at {lo k : Int} {n i : Nat} (h : i < n) : (rgD lo k n)[i]? = some (.int (lo + (i : Nat) * k)) := by
  unfold rgD
  rw [List.getElem?_map, List.getElem?_range h]
  rfl
theorem yld_range {lo : Int} {n : Nat} : Yld c (Itr lo n) F (rgD lo 1 n) := by
  have hl : (rgD lo 1 n).length = n := by unfold rgD; simp
  refine ⟨fun i H e hi => ?_, fun i H e hi => ?_, fun i F' H' x H2 e1 e2 hi hy => ?_⟩
  · rw [hl] at hi; exact hi
  · rw [hl] at hi; exact hi
  · obtain ⟨rfl, rfl⟩ := hy
    rw [hl] at hi
    refine ⟨_, F', rgD_at hi, Grow.refl e2, ?_⟩
    rw [Int.mul_one]
    exact rel_int
theorem yld_rangeC {lo k : Int} {n : Nat} : Yld c (Itc lo k n) F (rgD lo k n) := by
  have hl : (rgD lo k n).length = n := by unfold rgD; simp
  refine ⟨fun i H e hi => ?_, fun i H e hi => ?_, fun i F' H' x H2 e1 e2 hi hy => ?_⟩
  · rw [hl] at hi; exact hi
  · rw [hl] at hi; exact hi
  · obtain ⟨rfl, rfl⟩ := hy
    rw [hl] at hi
    exact ⟨_, F', rgD_at hi, Grow.refl e2, rel_int⟩
def enumFrom' : Nat → List D → List D
  | _, [] => []
  | i, d :: ds => .tup [.int i, d] :: enumFrom' (i + 1) ds
theorem enum_length : ∀ (i : Nat) (ds : List D), (enumFrom' i ds).length = ds.length
  | _, [] => rfl
  | i, d :: ds => by rw [enumFrom', List.length_cons, enum_length, List.length_cons]
theorem enum_at : ∀ {ds : List D} {k i : Nat} {d : D}, ds[i]? = some d → (enumFrom' k ds)[i]? = some (.tup [.int ((k + i : Nat) : Int), d])
  | [], k, i, d, h => by simp at h
  | x :: ds, k, 0, d, h => by
    have e : x = d := by simpa using h
    subst e
    rfl
  | x :: ds, k, i + 1, d, h => by
    have q := enum_at (ds := ds) (k := k + 1) (i := i) (d := d) (by simpa using h)
    rw [enumFrom', List.getElem?_cons_succ, q]
    have : k + 1 + i = k + (i + 1) := by omega
    rw [this]
theorem pair_new {F H : Hp} {T : Addr} {x y : V} {d e : D} (ex : ∀ b o, F b = some o → H b = some o) (hT : H T = none) (r1 : Rel c F H d x []) (r2 : Rel c F H e y []) :
    Grow F H (upd F T (.tup [x, y])) (upd H T (.tup [x, y])) [] ∧ Rel c (upd F T (.tup [x, y])) (upd H T (.tup [x, y])) (.tup [d, e]) (.ref T) [] :=
  rel_newT ex (show Rels c F H [d, e] [x, y] [] from ⟨x, [y], [], [], rfl, rfl, r1, y, [], [], [], rfl, rfl, r2, rfl, rfl⟩) hT
theorem yld_enumL {a : Addr} {vs : List V} {xs : List D} {K : PySem.W.Frag} (r : Rels c F H xs vs []) (h : F a = some (.lst vs)) : Yld c (Ite K a) F (enumFrom' 0 xs) := by
  have sq : ∀ {H : Hp}, (∀ b o, F b = some o → H b = some o) → SqL K H a vs := fun e => .inl (.inl (e _ _ h))
  refine ⟨fun i H e hi => ?_, fun i H e hi => ⟨vs, sq e, by rw [r.length, ← enum_length 0]; exact hi⟩, fun i F' H' x H2 e1 e2 hi hy => ?_⟩
  · rw [enum_length] at hi
    obtain ⟨v, B, h1, _⟩ := r.at (j := i) (d := xs[i]) (List.getElem?_eq_getElem hi)
    exact ⟨vs, v, sq e, h1⟩
  · rw [enum_length] at hi
    obtain ⟨T, y, rfl, hT, rfl, hy⟩ := hy
    obtain ⟨v, B, h1, h2, hB⟩ := r.at (j := i) (d := xs[i]) (List.getElem?_eq_getElem hi)
    have z : B = [] := List.eq_nil_iff_forall_not_mem.mpr fun b hb => by cases hB b hb
    subst z
    have h3 := hy vs (sq fun b o h => e2 _ _ (e1 _ _ h))
    rw [h1] at h3
    cases h3
    obtain ⟨g, rr⟩ := pair_new (d := .int ((0 + i : Nat) : Int)) e2 hT (show Rel c F' H' (.int ((0 + i : Nat) : Int)) (.int (i : Nat)) [] by rw [Nat.zero_add]; exact rel_int) (Rel.mono (H' := H') e1 h2 fun b hb => by cases hb)
    exact ⟨_, _, enum_at (List.getElem?_eq_getElem hi), g, rr⟩
theorem yld_enumT {a : Addr} {vs : List V} {xs : List D} (r : Rels c F H xs vs []) (h : SqT c.K F a vs) : Yld c (IteT c.K a) F (enumFrom' 0 xs) := by
  refine ⟨fun i H e hi => ?_, fun i H e hi => ⟨vs, sqT_mono e h, by rw [r.length, ← enum_length 0]; exact hi⟩, fun i F' H' x H2 e1 e2 hi hy => ?_⟩
  · rw [enum_length] at hi
    obtain ⟨v, B, h1, _⟩ := r.at (j := i) (d := xs[i]) (List.getElem?_eq_getElem hi)
    exact ⟨vs, v, sqT_mono e h, h1⟩
  · rw [enum_length] at hi
    obtain ⟨T, y, rfl, hT, rfl, hy⟩ := hy
    obtain ⟨v, B, h1, h2, hB⟩ := r.at (j := i) (d := xs[i]) (List.getElem?_eq_getElem hi)
    have z : B = [] := List.eq_nil_iff_forall_not_mem.mpr fun b hb => by cases hB b hb
    subst z
    have h3 := hy vs (sqT_mono (fun b o h => e2 _ _ (e1 _ _ h)) h)
    rw [h1] at h3
    cases h3
    obtain ⟨g, rr⟩ := pair_new (d := .int ((0 + i : Nat) : Int)) e2 hT (show Rel c F' H' (.int ((0 + i : Nat) : Int)) (.int (i : Nat)) [] by rw [Nat.zero_add]; exact rel_int) (Rel.mono (H' := H') e1 h2 fun b hb => by cases hb)
    exact ⟨_, _, enum_at (List.getElem?_eq_getElem hi), g, rr⟩
end

section
variable {X : Cx} {c : Ctx} {a b e tg : Expr} {rest es : List Expr} {f f1 f2 f3 : Den Hdl} {g : Den (List Hdl)} {pos : Pos}
theorem pi_seq {l : Expr} {tl : TE} (hl : PE X l tl) : PI X tg l (fun σ H R => tl σ H fun x H1 => ∃ a, x = .ref a ∧ (((∃ xs, SqL X.K H1 a xs) ∧ R (Itl X.K a) H1) ∨ ((∃ xs, SqT X.K H1 a xs) ∧ R (Itt X.K a) H1))) := by
  refine ⟨fun pins s σ H R I h => ?_⟩
  refine thn (hl.run pins s σ H _ I h) fun v s1 ⟨x, H1, I1, r1, q1⟩ => ?_
  obtain ⟨a, e, q⟩ := q1
  subst e
  cases r1
  have fp : ∀ b ∈ [s1.heap.objs.size], FpOk X pins H1 b := fun b hb => by
    have e : b = s1.heap.objs.size := by simpa using hb
    rw [e]
    exact I1.fpOk (Nat.le_refl _) (I1.hok.fresh (Nat.le_refl _))
  rcases q with ⟨⟨xs, hq⟩, q⟩ | ⟨⟨xs, hq⟩, q⟩
  · obtain ⟨its, rv, p, hz⟩ := I1.list hq
    refine wpAny_pyIter_list p.isList ?_
    exact ⟨s1.heap.objs.size, [s1.heap.objs.size], _, _, H1, rfl, I1.kept (t' := s1.toks) fun b o e => Heap.get?_push_of_some _ e, turn_list a _, ⟨_, Heap.get?_push_size _ rfl, rfl, rfl⟩, fp, q⟩
  · obtain ⟨its, rv, p, hz⟩ := I1.tuple hq
    refine wpAny_pyIter_tuple p ?_
    exact ⟨s1.heap.objs.size, [s1.heap.objs.size], _, _, H1, rfl, I1.kept (t' := s1.toks) fun b o e => Heap.get?_push_of_some _ e, turn_tuple a _, ⟨_, Heap.get?_push_size _ rfl, rfl, rfl⟩, fp, q⟩
def seqS (f : Den Hdl) : Den (List D) := fun τ => (f τ).bind fun h τ1 => match seqOf h τ1 with
  | some xs => .ok xs τ1
  | none => .bad
theorem src_sound {k : List D → List D} {W : WX} {σ : L2.St} {H : Hp} {R : It → Hp → Prop} (h : tI c (fun τ => (f τ).bind fun h τ1 => match seqOf h τ1 with
      | some xs => .ok (k xs) τ1
      | none => .bad) W σ H R) {R' : VK}
    (hk : ∀ {F' H' : Hp} {a : Addr} {vs : List V} {xs : List D}, (∀ b o, F' b = some o → H' b = some o) → Rels c F' H' xs vs [] → (F' a = some (.lst vs) ∨ SqT c.K F' a vs) → (∀ J, Yld c J F' (k xs) → R J H') → R' (.ref a) H') : tE c f W σ H R' := by
  obtain ⟨τ, F, S, sa, h⟩ := h
  refine ⟨τ, F, S, sa, ?_⟩
  dsimp only at h
  cases e1 : f τ with
  | bad => rw [e1] at h; exact h
  | ex n d τ' => rw [e1] at h; exact h
  | ok h1 τ1 =>
    rw [e1] at h
    intro v1 F1 H1 A1 S1 g1 sa1 r1 nd1
    dsimp only [Rz.bind] at h
    cases e2 : seqOf h1 τ1 with
    | none => rw [e2] at h; exact h.elim
    | some xs =>
      rw [e2] at h
      obtain ⟨F2, a, vs, rfl, q⟩ := seqOf_at sa1 r1 nd1 e2
      exact hk q.sa.ex q.rel q.at_ fun J y => h J F2 H1 S1 (Go.trans0 g1 q.go) q.sa y
theorem i_seq (hK : c.K = X.K) (ha : Tr X c e f) : TrI X c tg e (seqS f) := by
  refine ⟨fun W tk => pi_mono (pi_seq (ha.pe W tk)) fun σ H R h => ?_⟩
  refine src_sound (k := fun xs => xs) h fun {F' H' a vs xs} ex r q y => ⟨a, rfl, ?_⟩
  rcases q with q | q
  · exact .inl ⟨⟨vs, .inl (.inl (ex _ _ q))⟩, y _ (yld_list hK r q)⟩
  · exact .inr ⟨⟨vs, by rw [← hK]; exact sqT_mono ex q⟩, y _ (yld_tup hK r q)⟩
def enumS (f : Den Hdl) : Den (List D) := fun τ => (f τ).bind fun h τ1 => match seqOf h τ1 with
  | some xs => .ok (enumFrom' 0 xs) τ1
  | none => .bad
theorem i_enum {p pos tpos : Pos} {elts : List Expr} {kk : Nat} (hK : c.K = X.K) (hm : X.mg "enumerate" = none) (ha : Tr X c e f) (hg : Gl X "enumerate" := by rfl) (hs : starEach [e] X.env = [(false, eval e X.env)] := by rfl) :
    TrI X c (.Tuple elts kk tpos) (.Call (.Name "enumerate" p) [e] [] pos) (enumS f) := by
  refine ⟨fun W tk => pi_mono (pi_enumA hg hm (pa_cons (ha.pe W tk) pa_nil hs) hs) fun σ H R h => ?_⟩
  refine src_sound (k := enumFrom' 0) h fun {F' H' a vs xs} ex r q y => ⟨a, vs, rfl, ?_⟩
  rcases q with q | q
  · exact .inl ⟨.inl (.inl (ex _ _ q)), y _ (yld_enumL r q)⟩
  · exact .inr ⟨by rw [← hK]; exact sqT_mono ex q, by rw [← hK]; exact y _ (yld_enumT r q)⟩
def inRg (i : Int) : Bool := decide (-1000000000 ≤ i) && decide (i ≤ 1000000000)
def intOf (h : Hdl) (τ : List D) : Option Int := match h.get τ with
  | .int i => if inRg i then some i else none
  | _ => none
theorem intOf_rel {F H : Hp} {σ : L2.St} {τ : List D} {S A : List Addr} {h : Hdl} {v : V} {i : Int} (sa : SA c F H σ τ S) (r : RelH c F H σ h v A) (e : intOf h τ = some i) : v = .int i ∧ -1000000000 ≤ i ∧ i ≤ 1000000000 := by
  unfold intOf at e
  rcases r.get sa with z | ⟨B, q⟩
  · rw [z] at e; cases e
  · cases hd : h.get τ <;> rw [hd] at e q <;> first | (cases e; done) | skip
    rename_i j
    have e : (if inRg j then some j else none) = some i := e
    split at e <;> cases e
    rename_i hr
    rw [inRg, Bool.and_eq_true, decide_eq_true_eq, decide_eq_true_eq] at hr
    exact ⟨q.1, hr⟩
def rgS1 (f : Den Hdl) : Den (List D) := fun τ => (f τ).bind fun h τ1 => match intOf h τ1 with
  | some n => .ok (rgD 0 1 n.toNat) τ1
  | none => .bad
theorem i_range1 {p pos : Pos} (hm : X.mg "range" = none) (ha : Tr X c a f) (hg : Gl X "range" := by rfl) (hs : starEach [a] X.env = [(false, eval a X.env)] := by rfl) : TrI X c tg (.Call (.Name "range" p) [a] [] pos) (rgS1 f) := by
  refine ⟨fun W tk => pi_mono (pi_range1 hg hm (pa_cons (ha.pe W tk) pa_nil hs) hs) fun σ H R h => ?_⟩
  obtain ⟨τ, F, S, sa, h⟩ := h
  refine ⟨τ, F, S, sa, ?_⟩
  unfold rgS1 at h
  cases e1 : f τ with
  | bad => rw [e1] at h; exact h
  | ex n d τ' => rw [e1] at h; exact h
  | ok h1 τ1 =>
    rw [e1] at h
    intro v1 F1 H1 A1 S1 g1 sa1 r1 nd1
    dsimp only [Rz.bind] at h
    cases e2 : intOf h1 τ1 with
    | none => rw [e2] at h; exact h.elim
    | some n =>
      rw [e2] at h
      obtain ⟨rfl, h1, h2⟩ := intOf_rel sa1 r1 e2
      exact ⟨n, rfl, by omega, by omega, h _ F1 H1 S1 (Go.less g1 fun b hb => List.mem_append_right _ hb) sa1 yld_range⟩
def rgS2 (f1 f2 : Den Hdl) : Den (List D) := fun τ => (f1 τ).bind fun h1 τ1 => (f2 τ1).bind fun h2 τ2 => match intOf h1 τ2, intOf h2 τ2 with
  | some i, some j => .ok (rgD i 1 (j - i).toNat) τ2
  | _, _ => .bad
theorem args2_sound {W : WX} {σ : L2.St} {H : Hp} {R : It → Hp → Prop} {k : Int → Int → Option (List D)} (h : tI c (fun τ => (f1 τ).bind fun h1 τ1 => (f2 τ1).bind fun h2 τ2 => match intOf h1 τ2, intOf h2 τ2 with
      | some i, some j => (match k i j with
        | some ds => .ok ds τ2
        | none => .bad)
      | _, _ => .bad) W σ H R) {R' : V → V → Hp → Prop}
    (hk : ∀ {F' H' : Hp} {i j : Int} {ds : List D}, -1000000000 ≤ i → i ≤ 1000000000 → -1000000000 ≤ j → j ≤ 1000000000 → k i j = some ds → (∀ J, Yld c J F' ds → R J H') → R' (.int i) (.int j) H') : tE c f1 W σ H fun x H1 => tE c f2 W σ H1 fun y H2 => R' x y H2 := by
  obtain ⟨τ, F, S, sa, h⟩ := h
  refine ⟨τ, F, S, sa, ?_⟩
  dsimp only at h
  cases e1 : f1 τ with
  | bad => rw [e1] at h; exact h
  | ex n d τ' => rw [e1] at h; exact h
  | ok h1 τ1 =>
    rw [e1] at h
    intro v1 F1 H1 A1 S1 g1 sa1 r1 nd1
    refine ⟨τ1, F1, S1, sa1, ?_⟩
    dsimp only [Rz.bind] at h
    cases e2 : f2 τ1 with
    | bad => rw [e2] at h; exact h
    | ex n d τ' =>
      rw [e2] at h
      exact fun cv dx F' H' S' go sa' x => h cv dx F' H' S' (Go.less (Go.trans g1 go) fun b hb => List.mem_append_right _ hb) sa' x
    | ok h2 τ2 =>
      rw [e2] at h
      intro v2 F2 H2 A2 S2 g2 sa2 r2 nd2
      dsimp only at h
      have r1' := r1.hand g2 nd1
      cases e3 : intOf h1 τ2 with
      | none => rw [e3] at h; exact h.elim
      | some i =>
        cases e4 : intOf h2 τ2 with
        | none => rw [e3, e4] at h; exact h.elim
        | some j =>
          rw [e3, e4] at h
          dsimp only at h
          obtain ⟨rfl, i1, i2⟩ := intOf_rel sa2 r1' e3
          obtain ⟨rfl, j1, j2⟩ := intOf_rel sa2 r2 e4
          cases e5 : k i j with
          | none => rw [e5] at h; exact h.elim
          | some ds =>
            rw [e5] at h
            exact hk i1 i2 j1 j2 e5 fun J y => h J F2 H2 S2 (Go.less (Go.trans g1 g2) fun b hb => List.mem_append_right _ (List.mem_append_right _ hb)) sa2 y
theorem i_range2 {p pos : Pos} (hm : X.mg "range" = none) (ha : Tr X c a f1) (hb : Tr X c b f2) (hg : Gl X "range" := by rfl) (hs : starEach [a, b] X.env = [(false, eval a X.env), (false, eval b X.env)] := by rfl) (hs2 : starEach [b] X.env = [(false, eval b X.env)] := by rfl) :
    TrI X c tg (.Call (.Name "range" p) [a, b] [] pos) (rgS2 f1 f2) := by
  refine ⟨fun W tk => pi_mono (pi_range2 hg hm (pa_cons (ha.pe W tk) (pa_cons (hb.pe W tk) pa_nil hs2) (by rw [hs, hs2])) hs hs2) fun σ H R h => ?_⟩
  exact args2_sound (k := fun i j => some (rgD i 1 (j - i).toNat)) (R' := fun x y H2 => ∃ i j : Int, [x, y] = [V.int i, V.int j] ∧ (-(2 ^ 62) ≤ i ∧ i < 2 ^ 62 ∧ -(2 ^ 62) ≤ j ∧ j < 2 ^ 62) ∧ R (Itr i (j - i).toNat) H2) h
    fun {F' H' i j ds} i1 i2 j1 j2 ek y => by
      cases ek
      exact ⟨i, j, rfl, ⟨by omega, by omega, by omega, by omega⟩, y _ yld_range⟩
/-- range(a, b, -1) -/
def rgS3 (f1 f2 : Den Hdl) : Den (List D) := fun τ => (f1 τ).bind fun h1 τ1 => (f2 τ1).bind fun h2 τ2 => match intOf h1 τ2, intOf h2 τ2 with
  | some i, some j => .ok (rgD i (-1) (i - j).toNat) τ2
  | _, _ => .bad
theorem i_range3 {p pos : Pos} {m : Expr} (hm : X.mg "range" = none) (ha : Tr X c a f1) (hb : Tr X c b f2) (hc : PE X m (tUn (rU fun i => .int (-i)) (tC (.int 1)))) (hg : Gl X "range" := by rfl)
    (hs : starEach [a, b, m] X.env = (false, eval a X.env) :: starEach [b, m] X.env := by rfl) (hs2 : starEach [b, m] X.env = (false, eval b X.env) :: starEach [m] X.env := by rfl) (hs3 : starEach [m] X.env = (false, eval m X.env) :: starEach [] X.env := by rfl) (hpl : (backTo pos (starEach [b, m] X.env)).any (·.1) = false := by rfl) :
    TrI X c tg (.Call (.Name "range" p) [a, b, m] [] pos) (rgS3 f1 f2) := by
  refine ⟨fun W tk => pi_mono (pi_range3 hg hm (pa_cons (ha.pe W tk) (pa_cons (hb.pe W tk) (pa_cons hc pa_nil hs3) hs2) hs) hs hpl) fun σ H R h => ?_⟩
  exact args2_sound (k := fun i j => some (rgD i (-1) (i - j).toNat)) (R' := fun x y H2 => ∃ q : Int, V.int 1 = .int q ∧ ∃ (i j k : Int) (n : Nat), [x, y, V.int (-q)] = [V.int i, V.int j, V.int k] ∧ RgC i j k n ∧ R (Itc i k n) H2) h
    fun {F' H' i j ds} i1 i2 j1 j2 ek y => by
      cases ek
      exact ⟨1, rfl, i, j, -1, (i - j).toNat, rfl, RgC.neg (by omega) (by omega) (by omega) (by omega), y _ yld_rangeC⟩

/-! ### comprehensions -/
def wipeD (τ : List D) : List Nat → List D
  | [] => τ
  | v :: vs => (wipeD τ vs).set v .un
/-- behind a comprehension its own names are as they were (what they owned is forgotten) -/
def backD (τ0 : List D) : List D → List Nat → List D
  | τ, [] => τ
  | τ, v :: vs => backD τ0 (τ.set v (match τ0[v]? with
    | some d => if d.pl then d else .un
    | none => .un)) vs
def lcL (t : D → List D → Option (List D)) (q : Den Bool) (f : Den Hdl) (ow : List Nat) : List D → List D → List D → Rz (List D)
  | [], acc, τ => .ok acc τ
  | d :: ds, acc, τ => match t d (wipeD τ ow) with
    | some τ1 => (match q τ1 with
      | .ok true τ2 => (match f τ2 with
        | .ok (.val d') τ3 => if acc.length ≤ 100000 then lcL t q f ow ds (acc ++ [d']) τ3 else .bad
        | _ => .bad)
      | .ok false τ2 => lcL t q f ow ds acc τ2
      | _ => .bad)
    | none => .bad
def lcE (src : Den (List D)) (t : D → List D → Option (List D)) (q : Den Bool) (f : Den Hdl) (ow : List Nat) : Den Hdl := fun τ => match src τ with
  | .ok ds τ1 => (match lcL t q f ow ds [] τ1 with
    | .ok acc τ2 => .ok (.val (.lst true acc)) (backD τ1 (wipeD τ2 ow) ow)
    | _ => .bad)
  | .ex n d τ1 => .ex n d τ1
  | .bad => .bad
def yesT : Den Bool := fun τ => .ok true τ
structure TrTs (X : Cx) (c : Ctx) (es : List Expr) (f : Den Bool) : Prop where
  pts : ∀ W, L2N.Takes X W → PTs X es (tT c f W)
theorem pts_mono {t t' : TT} (h : PTs X es t) (k : ∀ σ H Q, t' σ H Q → t σ H Q) : PTs X es t' := ⟨fun pins s σ H Q I q => h.run pins s σ H Q I (k σ H Q q)⟩
theorem tts_nil : TrTs X c [] yesT := by
  refine ⟨fun W _ => pts_mono pts_nil fun σ H Q h => ?_⟩
  obtain ⟨τ, F, S, sa, h⟩ := h
  exact (show Post c (fun _ _ (a : Bool) b A => b = a ∧ A = []) W F H σ S Q (.ok true τ) from h) true F H [] S Go.refl sa ⟨rfl, rfl⟩ sa.nd
theorem tts_one {p : Den Bool} (h : TrT X c e p) : TrTs X c [e] p := ⟨fun W tk => pts_one (h.pt W tk)⟩
end
section
variable {c : Ctx} {F H : Hp} {σ : L2.St} {τ : List D} {S A : List Addr}
theorem SA.wipe1 (sa : SA c F H σ τ S) {i : Nat} (hf : c.fx i = false) : ∃ S', SA c F H (σ.set i none) (τ.set i .un) S' ∧ ∀ b ∈ S', b ∈ S := by
  have fx : ∀ j, c.fx j = true → (σ.set i none)[j]? = c.σ0[j]? := fun j hj => by
    have ne : i ≠ j := fun z => by
      subst z
      rw [hf] at hj
      cases hj
    rw [List.getElem?_set_ne ne]
    exact sa.fx j hj
  cases hi : τ[i]? with
  | none =>
    have l1 := sa.sl.length
    have l2 := List.getElem?_eq_none_iff.mp hi
    refine ⟨S, ⟨sa.ex, sa.nt, sa.fb, sa.tb, ?_, sa.nd, fx⟩, fun b hb => hb⟩
    rw [List.set_eq_of_length_le (by omega), List.set_eq_of_length_le (by omega)]
    exact sa.sl
  | some d0 =>
    obtain ⟨x, A0, B1, B2, e1, rfl, r1, k⟩ := Slots.at sa.sl hi
    have n2 := List.nodup_append.mp sa.nd
    have n3 := List.nodup_append.mp n2.2.1
    refine ⟨B1 ++ ([] ++ B2), ⟨sa.ex, sa.nt, sa.fb, sa.tb, k F H none .un [] (fun _ _ h => h) (fun b hb => ⟨rfl, (sa.owned b ?_).1⟩) rfl, ?_, fx⟩, fun b hb => ?_⟩
    · rcases List.mem_append.mp hb with y | y
      · exact List.mem_append_left _ y
      · exact List.mem_append_right _ (List.mem_append_right _ y)
    · exact List.nodup_append.mpr ⟨n2.1, n3.2.1, fun x hx y hy => n2.2.2 x hx y (List.mem_append_right _ hy)⟩
    · rcases List.mem_append.mp hb with y | y
      · exact List.mem_append_left _ y
      · exact List.mem_append_right _ (List.mem_append_right _ y)
theorem SA.wipe (sa : SA c F H σ τ S) : ∀ {ow : List Nat}, (∀ i ∈ ow, c.fx i = false) → ∃ S', SA c F H (L2.wipe σ ow) (wipeD τ ow) S' ∧ ∀ b ∈ S', b ∈ S
  | [], _ => ⟨S, sa, fun b hb => hb⟩
  | i :: ow, hf => by
    obtain ⟨S1, s1, h1⟩ := SA.wipe sa (ow := ow) fun j hj => hf j (List.mem_cons_of_mem _ hj)
    obtain ⟨S2, s2, h2⟩ := s1.wipe1 (hf i List.mem_cons_self)
    exact ⟨S2, s2, fun b hb => h1 b (h2 b hb)⟩
theorem wipe_at : ∀ {ow : List Nat} {j : Nat}, j ∉ ow → (L2.wipe σ ow)[j]? = σ[j]?
  | [], j, _ => rfl
  | i :: ow, j, h => by
    show ((L2.wipe σ ow).set i none)[j]? = _
    rw [List.getElem?_set_ne (fun z => h (by simp [z])), wipe_at fun z => h (List.mem_cons_of_mem _ z)]
theorem wipe_none : ∀ {ow : List Nat} {j : Nat}, j ∈ ow → j < σ.length → (L2.wipe σ ow)[j]? = some none
  | i :: ow, j, h, hl => by
    show ((L2.wipe σ ow).set i none)[j]? = _
    by_cases e : i = j
    · subst e
      rw [List.getElem?_set_self (by rw [wipe_length]; exact hl)]
    · rw [List.getElem?_set_ne e]
      exact wipe_none ((List.mem_cons.mp h).resolve_left fun z => e z.symm) hl
/-- two states that part in ow alone are wiped alike -/
theorem wipe_keep {σ' : L2.St} {o2 ow : List Nat} (k : Keep o2 (L2.wipe σ ow) σ') (h : ∀ i ∈ o2, i ∈ ow) : L2.wipe σ' ow = L2.wipe σ ow := by
  apply List.ext_getElem?
  intro j
  have hl : σ'.length = σ.length := by rw [k.1, wipe_length]
  by_cases hj : j ∈ ow
  · by_cases hlt : j < σ.length
    · rw [wipe_none hj hlt, wipe_none hj (by omega)]
    · rw [List.getElem?_eq_none (by rw [wipe_length]; omega), List.getElem?_eq_none (by rw [wipe_length]; omega)]
  · rw [wipe_at hj, wipe_at hj, k.2 j fun z => hj (h j z), wipe_at hj]
theorem SA.back1 {F0 H0 : Hp} {τ0 : List D} {S0 : List Addr} (s0 : SA c F0 H0 σ τ0 S0) (hF : ∀ b o, F0 b = some o → F b = some o) {σ' : L2.St} (sa : SA c F H σ' τ S) {i : Nat} (hl : σ'.length = σ.length) (hf : c.fx i = false) :
    ∃ S', SA c F H (σ'.set i ((σ[i]?).getD none)) (τ.set i (match τ0[i]? with
      | some d => if d.pl then d else .un
      | none => .un)) S' ∧ ∀ b ∈ S', b ∈ S := by
  obtain ⟨S1, s1, h1⟩ := sa.wipe1 hf
  have e1 : ∀ (x : Option V) (d : D), ((σ'.set i none).set i x) = σ'.set i x ∧ ((τ.set i .un).set i d) = τ.set i d := fun x d => ⟨List.set_set .., List.set_set ..⟩
  cases h0 : τ0[i]? with
  | none =>
    have l1 := s0.sl.length
    have l2 := List.getElem?_eq_none_iff.mp h0
    have e : σ[i]? = none := List.getElem?_eq_none (by omega)
    rw [e]
    exact ⟨S1, s1, h1⟩
  | some d =>
    obtain ⟨x, A0, B1, B2, ex, _, r1, _⟩ := Slots.at s0.sl h0
    rw [ex]
    dsimp only [Option.getD]
    have put_un : ∃ S', SA c F H (σ'.set i x) (τ.set i .un) S' ∧ ∀ b ∈ S', b ∈ S := by
      cases x with
      | none => exact ⟨S1, s1, h1⟩
      | some v =>
        obtain ⟨S2, s2, h2⟩ := s1.put (i := i) (d := .non) (v := .non) (A := []) ⟨rfl, rfl⟩ s1.nd hf
        cases hi : (τ.set i .un)[i]? with
        | none =>
          have q := List.getElem?_eq_none_iff.mp hi
          rw [List.length_set] at q
          have l3 := sa.sl.length
          have l4 := s0.sl.length
          have := (List.getElem?_eq_some_iff.mp ex).1
          omega
        | some d1 =>
          obtain ⟨x1, A1, C1, C2, ey, es, r2, k⟩ := Slots.at s1.sl hi
          have q := k F H (some v) .un [] (fun _ _ h => h) (fun b hb => ⟨rfl, (s1.owned b (by
            rw [es]
            rcases List.mem_append.mp hb with y | y
            · exact List.mem_append_left _ y
            · exact List.mem_append_right _ (List.mem_append_right _ y))).1⟩) rfl
          rw [(e1 (some v) .un).1, (e1 (some v) .un).2] at q
          have sub : ∀ b ∈ C1 ++ ([] ++ C2), b ∈ S1 := fun b hb => by
            rw [es]
            rcases List.mem_append.mp hb with y | y
            · exact List.mem_append_left _ y
            · exact List.mem_append_right _ (List.mem_append_right _ y)
          have nds := s1.nd
          rw [es] at nds
          have n2 := List.nodup_append.mp nds
          have n3 := List.nodup_append.mp n2.2.1
          refine ⟨C1 ++ ([] ++ C2), ⟨s1.ex, s1.nt, s1.fb, s1.tb, q, List.nodup_append.mpr ⟨n2.1, n3.2.1, fun x hx y hy => n2.2.2 x hx y (List.mem_append_right _ hy)⟩, fun j hj => ?_⟩, fun b hb => h1 b (sub b hb)⟩
          have ne : i ≠ j := fun z => by
            subst z
            rw [hf] at hj
            cases hj
          rw [List.getElem?_set_ne ne]
          exact sa.fx j hj
    by_cases hp : d.pl = true
    · rw [if_pos hp]
      rcases slotR_of r1 with ⟨rfl, _⟩ | ⟨v, rfl, r⟩
      · cases hp
      · have r' : Rel c F H d v [] := Rel.any r hp hF
        obtain ⟨S2, s2, h2⟩ := s1.put (i := i) (d := d) (v := v) (A := []) r' s1.nd hf
        rw [(e1 (some v) d).1, (e1 (some v) d).2] at s2
        exact ⟨S2, s2, fun b hb => h1 b (h2 b hb)⟩
    · rw [if_neg hp]
      exact put_un
theorem wipe_back : ∀ {ow : List Nat} {σ' : L2.St}, σ'.length = σ.length → (∀ j, j ∉ ow → σ'[j]? = σ[j]?) → ow.foldl (fun s i => s.set i ((σ[i]?).getD none)) σ' = σ
  | [], σ', hl, h => List.ext_getElem? fun j => h j (by simp)
  | i :: ow, σ', hl, h => by
    rw [List.foldl_cons]
    refine wipe_back (by rw [List.length_set]; exact hl) fun j hj => ?_
    by_cases e : i = j
    · subst e
      by_cases hlt : i < σ.length
      · rw [List.getElem?_set_self (by omega), List.getElem?_eq_getElem hlt]
        rfl
      · rw [List.getElem?_eq_none (by rw [List.length_set]; omega), List.getElem?_eq_none (by omega)]
    · rw [List.getElem?_set_ne e]
      exact h j fun z => by
        rcases List.mem_cons.mp z with z | z
        · exact e z.symm
        · exact hj z
theorem SA.backs {F0 H0 : Hp} {τ0 : List D} {S0 : List Addr} (s0 : SA c F0 H0 σ τ0 S0) (hF : ∀ b o, F0 b = some o → F b = some o) : ∀ {ow : List Nat} {σ' : L2.St} {τ : List D} {S : List Addr}, (∀ i ∈ ow, c.fx i = false) → SA c F H σ' τ S → σ'.length = σ.length →
    ∃ S', SA c F H (ow.foldl (fun s i => s.set i ((σ[i]?).getD none)) σ') (backD τ0 τ ow) S' ∧ ∀ b ∈ S', b ∈ S
  | [], σ', τ, S, _, sa, _ => ⟨S, sa, fun b hb => hb⟩
  | i :: ow, σ', τ, S, hf, sa, hl => by
    obtain ⟨S1, s1, h1⟩ := SA.back1 s0 hF sa hl (hf i List.mem_cons_self)
    obtain ⟨S2, s2, h2⟩ := SA.backs s0 hF (ow := ow) (fun j hj => hf j (List.mem_cons_of_mem _ hj)) s1 (by rw [List.length_set]; exact hl)
    exact ⟨S2, s2, fun b hb => h1 b (h2 b hb)⟩
end
end Y
end

section
set_option Elab.async false
set_option linter.all false
set_option maxRecDepth 100000
set_option maxHeartbeats 4000000
/-! Y8: comprehensions are sound. -/
namespace Y
open PySem PySem.Spec PyProof.Rows L2

section
variable {c : Ctx} {F H F1 H1 F2 H2 : Hp} {σ : L2.St} {τ : List D} {S S1 A B : List Addr}
/-- a list in hand that is being made -/
structure Hand (c : Ctx) (F H : Hp) (L : Addr) (acc : List D) (vs : List V) (B S : List Addr) : Prop where
  at_ : H L = some (.lst vs)
  nf : F L = none
  rel : Rels c F H acc vs B
  nd : (L :: B ++ S).Nodup
theorem Hand.owned {L : Addr} {acc : List D} {vs : List V} (h : Hand c F H L acc vs B S) : ∀ x ∈ L :: B, F x = none ∧ ∃ o, H x = some o ∧ ∀ ps, o ≠ .tbl ps := fun x hx => by
  rcases List.mem_cons.mp hx with rfl | hx
  · exact ⟨h.nf, _, h.at_, fun ps z => by cases z⟩
  · exact h.rel.owned x hx
theorem Hand.go {L : Addr} {acc : List D} {vs : List V} (h : Hand c F H L acc vs B S) (g : Go F H S F1 H1 S1) (n : S1.Nodup) : Hand c F1 H1 L acc vs B S1 := by
  have k := g.hand h.owned h.nd
  refine ⟨(k L List.mem_cons_self).1.trans h.at_, (k L List.mem_cons_self).2.1, Rels.mono g.f h.rel fun x hx => ⟨(k x (List.mem_cons_of_mem _ hx)).1, (k x (List.mem_cons_of_mem _ hx)).2.1⟩, nodup_hand g h.owned h.nd n⟩
theorem Hand.less {L : Addr} {acc : List D} {vs : List V} (h : Hand c F H L acc vs B S) (sub : ∀ b ∈ S1, b ∈ S) (n : S1.Nodup) : Hand c F H L acc vs B S1 := h.go (Go.less Go.refl sub) n
/-- a thing is put behind -/
theorem Hand.app {L : Addr} {acc : List D} {vs : List V} {d : D} {v : V} (h : Hand c F H L acc vs B (A ++ S)) (sa : SA c F H σ τ S) (r : Rel c F H d v A) (nd : (A ++ S).Nodup) :
    Hand c F (upd H L (.lst (vs ++ [v]))) L (acc ++ [d]) (vs ++ [v]) (B ++ A) S ∧ SA c F (upd H L (.lst (vs ++ [v]))) σ τ S ∧ Go F H (L :: B ++ (A ++ S)) F (upd H L (.lst (vs ++ [v]))) (L :: (B ++ A) ++ S) := by
  have n1 := List.nodup_cons.mp (show (L :: (B ++ (A ++ S))).Nodup from h.nd)
  have nL : ∀ x, x ∈ B ++ (A ++ S) → x ≠ L := fun x hx z => n1.1 (z ▸ hx)
  have e : ∀ x ∈ B ++ (A ++ S), upd H L (.lst (vs ++ [v])) x = H x := fun x hx => upd_ne (nL x hx)
  have memS : ∀ x ∈ S, x ∈ B ++ (A ++ S) := fun x hx => List.mem_append_right _ (List.mem_append_right _ hx)
  have F_ : ∀ b o, F b = some o → b ≠ L := fun b o hb z => by rw [z, h.nf] at hb; cases hb
  refine ⟨⟨upd_same, h.nf, ?_, ?_⟩, ⟨fun b o hb => ?_, sa.nt, sa.fb, ?_, Slots.mono (fun _ _ h => h) sa.sl fun x hx => ⟨e x (memS x hx), (sa.owned x hx).1⟩, sa.nd, sa.fx⟩, ?_⟩
  · refine (Rels.mono (fun _ _ h => h) h.rel fun x hx => ⟨e x (List.mem_append_left _ hx), (h.rel.owned x hx).1⟩).append ?_
    have q : Rel c F (upd H L (.lst (vs ++ [v]))) d v A := Rel.mono (fun _ _ h => h) r fun x hx => ⟨e x (List.mem_append_right _ (List.mem_append_left _ hx)), (r.owned x hx).1⟩
    exact ⟨v, [], A, [], rfl, by simp, q, rfl, rfl⟩
  · have q := h.nd
    simpa using q
  · rw [upd_ne (F_ b o hb)]
    exact sa.ex b o hb
  · have noL : ∀ {b : Addr} {q : Str}, H b = some (LamX.CodeO b q) → b ≠ L := fun {b q} e z => by
      rw [z, h.at_] at e
      have e3 := Option.some.inj e
      unfold LamX.CodeO at e3
      cases e3
    refine ⟨fun p hp => ?_, fun p hp => by rw [upd_ne (noL (sa.tb.code p hp))]; exact sa.tb.code p hp⟩
    obtain ⟨ps, h1, h2, h3⟩ := sa.tb.tabs p hp
    have np : p.1 ≠ L := fun z => by
      rw [z, h.at_] at h1
      cases h1
    refine ⟨ps, by rw [upd_ne np]; exact h1, h2, fun pos cv hc => ?_⟩
    obtain ⟨c0, e1, e2⟩ := h3 pos cv hc
    exact ⟨c0, e1, by rw [upd_ne (noL e2)]; exact e2⟩
  · refine ⟨fun _ _ h => h, fun b o hb _ hx => ?_, fun b hb => .inl ?_, fun _ _ h => .inl h⟩
    · rw [upd_ne (fun z => hx (by rw [z]; simp))]
      exact hb
    · simpa using hb
end
section
variable {X : Cx} {c : Ctx} {tg iter elt : Expr} {ifs : List Expr} {src : Den (List D)} {t : D → List D → Option (List D)} {q : Den Bool} {f : Den Hdl} {ow o2 : List Nat}
theorem lc_sound {W : WX} {σ : L2.St} {H : Hp} {Q : VK} (hfx : ∀ i ∈ ow, c.fx i = false) (ho : ∀ i ∈ o2, i ∈ ow) (h : tE c (lcE src t q f ow) W σ H Q) :
    tLc (tI c src W) (tG c o2 t) (tT c q fun _ _ _ _ => False) (tE c f fun _ _ _ _ => False) ow σ H Q := by
  obtain ⟨τ, F, S, sa, h⟩ := h
  refine ⟨τ, F, S, sa, ?_⟩
  unfold lcE at h
  cases e1 : src τ with
  | bad => rw [e1] at h; exact h
  | ex n d τ' => rw [e1] at h; exact h
  | ok ds τ1 =>
    rw [e1] at h
    intro J F1 H1 S1 g1 sa1 y L hL
    dsimp only at h
    cases e2 : lcL t q f ow ds [] τ1 with
    | bad => rw [e2] at h; exact h.elim
    | ex n d τ' => rw [e2] at h; exact h.elim
    | ok accF τF =>
      rw [e2] at h
      have h : Post c (fun F H => RelH c F H σ) W F H σ S Q (.ok (.val (.lst true accF)) (backD τ1 (wipeD τF ow) ow)) := h
      have gr0 : Grow F1 H1 F1 (upd H1 L (.lst [])) [L] := grow_own sa1.ex hL
      obtain ⟨sa1', nd1'⟩ := gr0.sa sa1
      obtain ⟨Sw, saw, hw⟩ := sa1'.wipe hfx
      have LS : L ∉ S1 := fun z => by
        obtain ⟨_, o, h2, _⟩ := sa1.owned L z
        rw [hL] at h2
        cases h2
      refine ⟨fun i m H2 => m = ds.length - i ∧ ∃ τ2 F2 S2 acc vs B, (∀ b o, F1 b = some o → F2 b = some o) ∧ SA c F2 H2 (L2.wipe σ ow) (wipeD τ2 ow) S2 ∧ Hand c F2 H2 L acc vs B S2 ∧ Go F1 H1 S1 F2 H2 (L :: B ++ S2) ∧ lcL t q f ow (ds.drop i) acc τ2 = .ok accF τF,
        ⟨ds.length, rfl, τ1, F1, Sw, [], [], [], fun _ _ h => h, saw, ⟨upd_same, ?_, Rels.nil, ?_⟩, ?_, e2⟩, ?_⟩
      · cases z : F1 L with
        | none => rfl
        | some o =>
          rw [sa1.ex L o z] at hL
          cases hL
      · exact List.nodup_cons.mpr ⟨fun z => LS (hw L z), saw.nd⟩
      · exact Go.less (gr0.go S1) fun b hb => by
          rcases List.mem_cons.mp hb with rfl | hb
          · simp
          · exact List.mem_append_right _ (hw b hb)
      · rintro i m H2 ⟨rfl, τ2, F2, S2, acc, vs, B, ff, sa2, hd2, go2, el⟩
        have fh : ∀ b o, F1 b = some o → H2 b = some o := fun b o z => sa2.ex b o (ff b o z)
        by_cases hlt : i < ds.length
        · refine .inr ⟨y.go i H2 fh hlt, fun H' => ∃ τ2 F2 S2 acc vs B, (∀ b o, F1 b = some o → F2 b = some o) ∧ SA c F2 H' (L2.wipe σ ow) (wipeD τ2 ow) S2 ∧ Hand c F2 H' L acc vs B S2 ∧ Go F1 H1 S1 F2 H' (L :: B ++ S2) ∧ lcL t q f ow (ds.drop (i + 1)) acc τ2 = .ok accF τF,
            fun H' q => ⟨ds.length - (i + 1), by omega, rfl, q⟩, fun x H3 hy => ?_⟩
          obtain ⟨d, F3, hd, gr, rr⟩ := y.yld i F2 H2 x H3 ff sa2.ex hlt hy
          obtain ⟨sa3, _⟩ := gr.sa sa2
          have go3 : Go F2 H2 S2 F3 H3 S2 := gr.go S2
          have hd3 := hd2.go go3 sa3.nd
          have g3 : Go F1 H1 S1 F3 H3 (L :: B ++ S2) := Go.trans go2 go3
          have f3 : ∀ b o, F1 b = some o → F3 b = some o := fun b o z => gr.f b o (ff b o z)
          rw [drop_at hd] at el
          have el : (match t d (wipeD τ2 ow) with
            | some τ1 => (match q τ1 with
              | .ok true τ2 => (match f τ2 with
                | .ok (.val d') τ3 => if acc.length ≤ 100000 then lcL t q f ow (ds.drop (i + 1)) (acc ++ [d']) τ3 else .bad
                | _ => .bad)
              | .ok false τ2 => lcL t q f ow (ds.drop (i + 1)) acc τ2
              | _ => .bad)
            | none => .bad) = .ok accF τF := el
          cases e3 : t d (wipeD τ2 ow) with
          | none => rw [e3] at el; cases el
          | some τ3 =>
            rw [e3] at el
            dsimp only at el
            refine ⟨wipeD τ2 ow, F3, S2, d, [], sa3, rr, sa3.nd, τ3, e3, fun σ4 S4 sa4 hm4 kp => ⟨wipe_keep kp ho, τ3, F3, S4, sa4, ?_⟩⟩
            have hd4 : Hand c F3 H3 L acc vs B S4 := hd3.less hm4 sa4.nd
            have g4 : Go F1 H1 S1 F3 H3 (L :: B ++ S4) := Go.less g3 fun b hb => by
              rcases List.mem_append.mp hb with z | z
              · exact List.mem_append_left _ z
              · exact List.mem_append_right _ (hm4 b z)
            cases e4 : q τ3 with
            | bad => rw [e4] at el; cases el
            | ex n d τ' => rw [e4] at el; cases el
            | ok b τ4 =>
              rw [e4] at el
              intro b' F5 H5 A5 S5 g5 sa5 r5 nd5
              obtain ⟨rfl, rfl⟩ := r5
              have hd5 := hd4.go g5 sa5.nd
              have g5' : Go F1 H1 S1 F5 H5 (L :: B ++ S5) := Go.trans g4 g5
              have f5 : ∀ b o, F1 b = some o → F5 b = some o := fun b o z => g5.f b o (f3 b o z)
              cases b' with
              | false =>
                refine iteF ?_
                obtain ⟨S6, sa6, hm6⟩ := sa5.wipe hfx
                rw [wipe_keep kp ho] at sa6
                exact ⟨τ4, F5, S6, acc, vs, B, f5, sa6, hd5.less hm6 sa6.nd, Go.less g5' fun b hb => by
                  rcases List.mem_append.mp hb with z | z
                  · exact List.mem_append_left _ z
                  · exact List.mem_append_right _ (hm6 b z), el⟩
              | true =>
                refine iteT ⟨τ4, F5, S5, sa5, ?_⟩
                dsimp only at el
                cases e5 : f τ4 with
                | bad => rw [e5] at el; cases el
                | ex n d τ' => rw [e5] at el; cases el
                | ok hh τ5 =>
                  rw [e5] at el
                  cases hh with
                  | slot j => cases el
                  | val d' =>
                    dsimp only at el
                    by_cases hz : acc.length ≤ 100000
                    · rw [if_pos hz] at el
                      intro v6 F6 H6 A6 S6 g6 sa6 r6 nd6
                      have hd6 := hd5.go g6 nd6
                      have g6' : Go F1 H1 S1 F6 H6 (L :: B ++ (A6 ++ S6)) := Go.trans g5' g6
                      obtain ⟨hd7, sa7, g7⟩ := hd6.app sa6 r6 nd6
                      obtain ⟨S8, sa8, hm8⟩ := sa7.wipe hfx
                      rw [wipe_keep kp ho] at sa8
                      refine ⟨vs, hd6.at_, Nat.lt_of_le_of_lt (by rw [hd6.rel.length]; exact hz) (by decide), τ5, F6, S8, acc ++ [d'], vs ++ [v6], B ++ A6, fun b o z => g6.f b o (f5 b o z), sa8, hd7.less hm8 sa8.nd, Go.less (Go.trans0 g6' g7) fun b hb => ?_, el⟩
                      rcases List.mem_append.mp hb with z | z
                      · exact List.mem_append_left _ z
                      · exact List.mem_append_right _ (hm8 b z)
                    · rw [if_neg hz] at el
                      cases el
        · refine .inl ⟨y.stop i H2 fh (by omega), ?_⟩
          rw [List.drop_eq_nil_of_le (by omega)] at el
          have el : (.ok acc τ2 : Rz (List D)) = .ok accF τF := el
          cases el
          obtain ⟨S3, sa3, hm3⟩ := SA.backs sa1 ff hfx sa2 (wipe_length _ _)
          rw [wipe_back (wipe_length _ _) fun j hj => wipe_at hj] at sa3
          have hd3 := hd2.less hm3 sa3.nd
          refine h (.ref L) F2 H2 (L :: B) S3 (Go.trans0 g1 (Go.less go2 fun b hb => ?_)) sa3 ⟨L, vs, B, rfl, hd2.at_, hd2.nf, rfl, hd2.rel⟩ hd3.nd
          rcases List.mem_append.mp hb with z | z
          · exact List.mem_append_left _ z
          · exact List.mem_append_right _ (hm3 b z)
theorem takesF {X : Cx} : L2N.Takes X (fun _ _ _ _ => False) := fun _ _ x => by
  obtain ⟨_, _, _, _, _, _, _, _, _, _, _, _, _, _, _, _, z⟩ := x
  exact z.elim
theorem t_lc {scope : Scope} {own : List (Str × Nat)} {pos : Pos} (hc : X.calm = true) (hN : X.N.Nodup) (hfx : ∀ i ∈ own.map (·.2), c.fx i = false) (ho : ∀ i ∈ o2, i ∈ own.map (·.2)) (hi : TrI X c tg iter src) (ok : BlkOk X.N X.env.scope scope own)
    (hg : ∀ (s : Shared) (H : Hp) (C : Addr) (cl : List (Str × Addr)) (fp : List Addr), TrG (X.blk s H scope (compEnvC scope cl C X.env) fp) c tg o2 t)
    (ht : ∀ (s : Shared) (H : Hp) (C : Addr) (cl : List (Str × Addr)) (fp : List Addr), TrTs (X.blk s H scope (compEnvC scope cl C X.env) fp) c ifs q)
    (he : ∀ (s : Shared) (H : Hp) (C : Addr) (cl : List (Str × Addr)) (fp : List Addr), Tr (X.blk s H scope (compEnvC scope cl C X.env) fp) c elt f) (hs : ∀ x, foldedSetIterable iter X.env x = pure x := by intro _; rfl) :
    Tr X c (.ListComp elt [⟨tg, iter, ifs, 0⟩] scope pos) (lcE src t q f (own.map (·.2))) :=
  ⟨fun W tk => pe_mono (pe_lc hc hN (hi.pi W tk) ok (fun s H C cl fp => (hg s H C cl fp).pg) (fun s H C cl fp => (ht s H C cl fp).pts _ takesF) (fun s H C cl fp => (he s H C cl fp).pe _ takesF) hs) fun σ H Q h => lc_sound hfx ho h⟩
theorem s_setLc {i : Nat} {y : Str} {py : Pos} {scope : Scope} {own : List (Str × Nat)} {pos spos : Pos} (hc : X.calm = true) (hN : X.N.Nodup) (hy : X.N[i]? = some y) (hyl : X.env.scope.names.lookup y = some .local) (hf : c.fx i = false)
    (hsw : swapsWith (.ListComp elt [⟨tg, iter, ifs, 0⟩] scope pos) (some (.Name y py)) spos.line X.env = pure true) (hfx : ∀ i ∈ own.map (·.2), c.fx i = false) (ho : ∀ i ∈ o2, i ∈ own.map (·.2)) (hi : TrI X c tg iter src) (ok : BlkOk X.N X.env.scope scope own)
    (hg : ∀ (s : Shared) (H : Hp) (C : Addr) (cl : List (Str × Addr)) (fp : List Addr), TrG (X.blk s H scope (compEnvC scope cl C X.env) fp) c tg o2 t)
    (ht : ∀ (s : Shared) (H : Hp) (C : Addr) (cl : List (Str × Addr)) (fp : List Addr), TrTs (X.blk s H scope (compEnvC scope cl C X.env) fp) c ifs q)
    (he : ∀ (s : Shared) (H : Hp) (C : Addr) (cl : List (Str × Addr)) (fp : List Addr), Tr (X.blk s H scope (compEnvC scope cl C X.env) fp) c elt f) (hs : ∀ x, foldedSetIterable iter X.env x = pure x := by intro _; rfl) :
    Ts X c (.Assign [.Name y py] (.ListComp elt [⟨tg, iter, ifs, 0⟩] scope pos) spos) (sSet i (lcE src t q f (own.map (·.2)))) :=
  ⟨fun W tk => ps_mono (ps_setLc hc hN hy hyl hsw (hi.pi W tk) ok (fun s H C cl fp => (hg s H C cl fp).pg) (fun s H C cl fp => (ht s H C cl fp).pts _ takesF) (fun s H C cl fp => (he s H C cl fp).pe _ takesF) hs) fun E σ H h => by
    have q := sSet_sound hf h
    exact lc_sound hfx ho q⟩
end
end Y
end

section
set_option Elab.async false
set_option linter.all false
set_option maxRecDepth 100000
set_option maxHeartbeats 4000000
/-! Y9: defs and calls. -/
namespace Y
open PySem PySem.Spec PyProof.Rows L2

inductive Rt where
  | ok (d : D) (ps : List D) | ex (n : Str) (d : D) | bad
/-- what stands behind a call: frozen heap, tables -/
structure Fin' (c : Ctx) (F H : Hp) : Prop where
  ex : ∀ b o, F b = some o → H b = some o
  nt : ∀ b ps, F b ≠ some (.tbl ps)
  tb : Tb c H
/-- the promise of a def that computes den -/
def spY (c : Ctx) (den : List D → Rt) : Sp := fun vs H Q E => ∃ F ds A, Fin' c F H ∧ (∀ b o, c.FB b = some o → F b = some o) ∧ Rels c F H ds vs A ∧ A.Nodup ∧
  match den ds with
  | .ok d ps => ∀ v F' H' B B', Go F H A F' H' (B ++ B') → Fin' c F' H' → Rel c F' H' d v B → Slots c F' H' (vs.map some) ps B' → (B ++ B').Nodup → Q v H'
  | .ex n d => ∀ cv dx F' H', Go F H A F' H' [] → Fin' c F' H' → ExP c F' H' n d cv dx → E cv dx H'
  | .bad => False
/-- what a closure's call gives: in any state from s0 on -/
def spZ (c : Ctx) (r : D) : Hp → VK → XK → Prop := fun H Q E => ∃ F, Fin' c F H ∧ (∀ b o, c.FB b = some o → F b = some o) ∧
  match r with
  | .tok d => ∀ v F' H' B, Go F H [] F' H' B → Fin' c F' H' → Rel c F' H' d v B → B.Nodup → Q v H'
  | .tex n d => ∀ cv dx F' H', Go F H [] F' H' [] → Fin' c F' H' → ExP c F' H' n d cv dx → E cv dx H'
  | _ => False
structure Clo (P : Program) (w : World) (K : PySem.W.Frag) (mg : Str → Option Value) (base : Heap) (c : Ctx) (LC : Nat) (out0 : List Env) (f : Addr) (r : D) (s0 : Shared) (H0 : Hp) : Prop where
  fn : PySem.W.FnAt f s0.heap
  no : H0 f = none
  run : ∀ (A : Around) (outer : List Env) (s1 : Shared) (H1 : Hp) (fs : List Addr) (Q : VK) (E : XK), Room LC A → Env0 P w K mg base A outer s1 H1 → (∀ b o, s0.heap.get? b = some o → b ∈ fs → b ∈ frs out0) → Un fs [] H0 H1 s0.heap s1.heap → spZ c r H1 Q E →
    codeAny (model P w) A (.call (.ref f) ⟨[], []⟩) (CR (L2N.CX P w) outer P w H1 s1 Q E) s1
/-- all closures in sight -/
def CloG (P : Program) (w : World) (K : PySem.W.Frag) (mg : Str → Option Value) (base : Heap) (c : Ctx) (LC : Nat) (out0 : List Env) (s0 : Shared) (H0 : Hp) : Prop := ∀ f r, c.G f = some r → Clo P w K mg base c LC out0 f r s0 H0
theorem Un.two {fs fs' : List Addr} {H H1 H2 : Hp} {h h1 h2 : Heap} (a : Un fs [] H H1 h h1) (b : Un fs' [] H1 H2 h1 h2) : Un (fs ++ fs') [] H H2 h h2 :=
  (a.mono (fun b hb => List.mem_append_left _ hb) fun b hb => hb).trans (b.mono (fun b hb => List.mem_append_right _ hb) fun b hb => hb)
/-- a def at f computes den -/
structure FnY (P : Program) (w : World) (K : PySem.W.Frag) (mg : Str → Option Value) (base : Heap) (T : List (Addr × Str)) (LC k : Nat) (f : Addr) (den : List D → Rt) : Prop where
  run : ∀ (c : Ctx) (A : Around) (outer : List Env) (s : Shared) (H : Hp) (us : List Value) (vs : List V) (Q : VK) (E : XK), c.K = K → c.mg = mg → c.T = T → Room k A → Env0 P w K mg base A outer s H → CloG P w K mg base c LC outer s H → Vals vs us → spY c den vs H Q E →
    codeAny (model P w) A (.call (.ref f) ⟨us, []⟩) (CR (L2N.CX P w) outer P w H s Q E) s

/-! ### a def by its body -/
def outD (fx : Nat → Bool) : Nat → Nat → List D → List D
  | _, 0, _ => []
  | j, k + 1, τ => (if fx j then τ.headD .un else .un) :: outD fx (j + 1) k τ.tail
def fnD (np n : Nat) (fx : Nat → Bool) (body : SDen) (args : List D) : Rt := if args.length = np then match body (args ++ List.replicate (n - args.length) .un) with
  | .nx τ => .ok .non (outD fx 0 args.length τ)
  | .rt d τ => if d.nk then .ok d (outD fx 0 args.length τ) else .bad
  | .ex n d _ => if d.nk then .ex n d else .bad
  | _ => .bad
  else .bad
section
variable {c : Ctx} {F H : Hp}
theorem Slots.append : ∀ {σ ρ : L2.St} {τ υ : List D} {S R : List Addr}, Slots c F H σ τ S → Slots c F H ρ υ R → Slots c F H (σ ++ ρ) (τ ++ υ) (S ++ R)
  | [], ρ, [], υ, S, R, h, r => by
    have z : S = [] := h
    subst z
    exact r
  | x :: σ, ρ, d :: τ, υ, S, R, h, r => by
    obtain ⟨A, B, rfl, r1, h⟩ := h
    exact ⟨A, B ++ R, by simp, r1, Slots.append h r⟩
theorem slots_args : ∀ {ds : List D} {vs : List V} {A : List Addr}, Rels c F H ds vs A → Slots c F H (vs.map some) ds A
  | [], vs, A, h => by obtain ⟨rfl, rfl⟩ := h; rfl
  | d :: ds, vs, A, h => by
    obtain ⟨v, ws, B, C, rfl, rfl, h1, h2⟩ := h
    exact ⟨B, C, rfl, slotR_mk h1, slots_args h2⟩
theorem slots_un : ∀ n : Nat, Slots c F H (List.replicate n none) (List.replicate n .un) []
  | 0 => rfl
  | n + 1 => ⟨[], [], rfl, rfl, slots_un n⟩
theorem Slots.out (fx : Nat → Bool) : ∀ {vs : List V} {σ : L2.St} {τ : List D} {S : List Addr} (j : Nat), Slots c F H σ τ S → S.Nodup → (∀ i, fx (j + i) = true → i < vs.length → σ[i]? = some (vs[i]?)) →
    ∃ B, Slots c F H (vs.map some) (outD fx j vs.length τ) B ∧ B.Nodup ∧ ∀ b ∈ B, b ∈ S
  | [], σ, τ, S, j, h, nd, hf => ⟨[], rfl, List.nodup_nil, fun b z => by cases z⟩
  | v :: vs, [], _ :: _, S, j, h, nd, hf => h.elim
  | v :: vs, x :: σ, [], S, j, h, nd, hf => h.elim
  | v :: vs, [], [], S, j, h, nd, hf => by
    obtain ⟨B', h1, h2, h3⟩ := Slots.out fx (vs := vs) (σ := []) (τ := []) (j + 1) h nd (fun i hi hlt => by
      have q := hf (i + 1) (by rw [← Nat.add_assoc, Nat.add_right_comm]; exact hi) (by simp; omega)
      simp at q)
    have hj : ¬ fx j = true := fun hj => by
      have q := hf 0 hj (by simp)
      simp at q
    refine ⟨B', ⟨[], B', rfl, ?_, h1⟩, h2, h3⟩
    rw [if_neg hj]
    rfl
  | v :: vs, x :: σ, d :: τ, S, j, h, nd, hf => by
    obtain ⟨A, B, rfl, r, h⟩ := h
    have n1 := List.nodup_append.mp nd
    obtain ⟨B', h1, h2, h3⟩ := Slots.out fx (vs := vs) (j + 1) h n1.2.1 (fun i hi hlt => by
      have q := hf (i + 1) (by rw [← Nat.add_assoc, Nat.add_right_comm]; exact hi) (by simp; omega)
      simpa using q)
    by_cases hj : fx j = true
    · have e : x = some v := by
        have q := hf 0 hj (by simp)
        simpa using q
      subst e
      refine ⟨A ++ B', ⟨A, B', rfl, ?_, h1⟩, List.nodup_append.mpr ⟨n1.1, h2, fun x hx y hy => n1.2.2 x hx y (h3 y hy)⟩, fun b hb => ?_⟩
      · rw [if_pos hj]
        exact r
      · rcases List.mem_append.mp hb with z | z
        · exact List.mem_append_left _ z
        · exact List.mem_append_right _ (h3 b z)
    · refine ⟨B', ⟨[], B', rfl, ?_, h1⟩, h2, fun b hb => List.mem_append_right _ (h3 b hb)⟩
      rw [if_neg hj]
      rfl
end
section
variable {P : Program} {w : World} {K : PySem.W.Frag} {mg : Str → Option Value} {base : Heap} {T : List (Addr × Str)} {LC k : Nat}
theorem SA.fin {c : Ctx} {F H : Hp} {σ : L2.St} {τ : List D} {S : List Addr} (sa : SA c F H σ τ S) : Fin' c F H := ⟨sa.ex, sa.nt, sa.tb⟩
/-- a def at f computes den, however its arguments are handed in -/
structure FnA (P : Program) (w : World) (K : PySem.W.Frag) (mg : Str → Option Value) (base : Heap) (T : List (Addr × Str)) (LC k : Nat) (f : Addr) (fd : FuncData) (ps : List Str) (den : List D → Rt) : Prop where
  run : ∀ (c : Ctx) (A : Around) (outer : List Env) (s : Shared) (H : Hp) (args : Args) (us : List Value) (vs : List V) (Q : VK) (E : XK), c.K = K → c.mg = mg → c.T = T → Room k A → Env0 P w K mg base A outer s H → CloG P w K mg base c LC outer s H → BindsTo s fd args (ps.zip us) → Vals vs us → spY c den vs H Q E →
    codeAny (model P w) A (.call (.ref f) args) (CR (L2N.CX P w) outer P w H s Q E) s
theorem fn_core {x qual : Str} {st : Stmt} {f : Addr} {fd : FuncData} {N ps : List Str} {fx : Nat → Bool} {body : SDen} (Fn : Fun K x qual st f fd) (S : FnScope N ps (defScope st)) (c0 : Ctx)
    (hbody : ∀ (c : Ctx) (A : Around) (outer : List Env) (s : Shared) (H : Hp) (E : XK), c.G = c0.G → c.K = K → c.mg = mg → c.T = T → c.fx = fx → Room k (A.deeper (envOfC qual (defScope st) s.heap.objs.size f fd.code)) → CloG P w K mg base c LC outer s H →
      Tss (cxOf (L2N.CX P w) P w K mg base N qual (defScope st) f fd.code A outer s H E) c (defBody st) body) (A : Around) (outer : List Env) (s : Shared) (H : Hp) (args : Args) (us : List Value) (vs : List V) (Q : VK) (E : XK) (hK : c0.K = K) (hM : c0.mg = mg) (hT : c0.T = T) (hr : Room (k + 1) A) (e0 : Env0 P w K mg base A outer s H) (hG : CloG P w K mg base c0 LC outer s H) (hbb : BindsTo s fd args (ps.zip us)) (r : Vals vs us) (hsp : spY c0 (fnD ps.length N.length fx body) vs H Q E) :
    codeAny (model P w) A (.call (.ref f) args) (CR (L2N.CX P w) outer P w H s Q E) s := by
  obtain ⟨oc, od, kV, doc, pm, an, cdv, ct, osl, rfl, lk, hcd⟩ := Fn.ex
  obtain ⟨F, ds, A0, fin, hFB, rds, nd, hm⟩ := hsp
  have hpl : ps.length ≤ N.length := by have := congrArg List.length S.pre; rw [List.length_take] at this; omega
  have lv : vs.length = ps.length := by
    rw [rds.length]
    by_cases z : ds.length = ps.length
    · exact z
    · unfold fnD at hm
      rw [if_neg z] at hm
      exact hm.elim
  refine LamX.run_ofS lk hcd S hr e0 hbb r lv fun hr' => ?_
  -- the surroundings of the body
  obtain ⟨c, hc⟩ : ∃ c : Ctx, c = { c0 with fx := fx, σ0 := L2.start N vs } := ⟨_, rfl⟩
  have hcK : c.K = c0.K := by rw [hc]
  have hcG : c.G = c0.G := by rw [hc]
  have hcT : c.T = c0.T := by rw [hc]
  have hcM : c.mg = c0.mg := by rw [hc]
  have hcB : c.FB = c0.FB := by rw [hc]
  have hcTb : ∀ {H : Hp}, Tb c0 H ↔ Tb c H := fun {H} => by
    rw [hc]
    exact ⟨fun h => ⟨h.tabs, h.code⟩, fun h => ⟨h.tabs, h.code⟩⟩
  have conv : ∀ {F H : Hp} {d : D} {v : V} {A : List Addr}, Rel c F H d v A → Rel c0 F H d v A := fun h => Rel.ctxG hcK.symm hcG.symm h
  have hG' : CloG P w K mg base c LC outer s H := fun g r hr => by
    rw [hcG] at hr
    have q := hG g r hr
    refine ⟨q.fn, q.no, fun A outer s1 H1 fs Q E a1 a2 a5 a3 a4 => q.run A outer s1 H1 fs Q E a1 a2 a5 a3 ?_⟩
    obtain ⟨F, b1, b2, b3⟩ := a4
    refine ⟨F, ⟨b1.ex, b1.nt, hcTb.mpr b1.tb⟩, by rw [← hcB]; exact b2, ?_⟩
    cases r <;> first | exact b3 | skip
    · intro v F' H' B g1 g2 g3 g4
      exact b3 v F' H' B g1 ⟨g2.ex, g2.nt, hcTb.mp g2.tb⟩ (Rel.ctxG hcK hcG g3) g4
    · intro cv dx F' H' g1 g2 g3
      obtain ⟨C, a, v, e1, e2, e3, e4, e5⟩ := g3
      exact b3 cv dx F' H' g1 ⟨g2.ex, g2.nt, hcTb.mp g2.tb⟩ ⟨C, a, v, by rw [hcM]; exact e1, e2, e3, e4, Rel.ctxG hcK hcG e5⟩
  have hB := hbody c A outer s H E hcG (hcK.trans hK) (hcM.trans hM) (hcT.trans hT) (by rw [hc]) hr' hG'
  refine ⟨_, hB.pss (fun cls d _ H => E cls d H) (L2N.takes_of rfl rfl rfl rfl), ds ++ List.replicate (N.length - ds.length) .un, F, A0, ⟨fin.ex, fin.nt, by rw [hcB]; exact hFB, hcTb.mp fin.tb, ?_, nd, fun i _ => by rw [hc]⟩, ?_⟩
  · have q := (slots_args rds).append (slots_un (c := c0) (F := F) (H := H) (N.length - ds.length))
    rw [List.append_nil] at q
    have q' := Slots.ctxG (c' := c) hcK hcG q
    unfold L2.start
    rw [rds.length]
    exact q'
  have outs : ∀ {σ' : L2.St} {τ' : List D} {F' H' : Hp} {S' : List Addr}, SA c F' H' σ' τ' S' → ∃ B, Slots c0 F' H' (vs.map some) (outD fx 0 ds.length τ') B ∧ B.Nodup ∧ ∀ b ∈ B, b ∈ S' := fun {σ' τ' F' H' S'} sa => by
    obtain ⟨B, h1, h2, h3⟩ := Slots.out (c := c) fx (vs := vs) 0 sa.sl sa.nd fun i hi hlt => by
      have q := sa.fx i (by rw [hc]; simpa using hi)
      rw [q, hc]
      show (L2.start N vs)[i]? = _
      unfold L2.start
      rw [List.getElem?_append_left (by simpa using hlt), List.getElem?_map, List.getElem?_eq_getElem hlt]
      rfl
    rw [rds.length] at h1
    exact ⟨B, Slots.ctxG hcK.symm hcG.symm h1, h2, h3⟩
  unfold fnD at hm
  rw [if_pos (rds.length.symm.trans lv)] at hm
  cases e1 : body (ds ++ List.replicate (N.length - ds.length) .un) with
  | bad => rw [e1] at hm; exact hm.elim
  | bk _ => rw [e1] at hm; exact hm.elim
  | ct _ => rw [e1] at hm; exact hm.elim
  | nx τ' =>
    rw [e1] at hm
    intro σ' F' H' S' go sa
    obtain ⟨B, h1, h2, h3⟩ := outs sa
    exact hm .non F' H' [] B (Go.less go h3) ⟨sa.ex, sa.nt, hcTb.mpr sa.tb⟩ ⟨rfl, rfl⟩ h1 h2
  | rt d τ' =>
    rw [e1] at hm
    dsimp only at hm
    by_cases hn : d.nk = true
    · rw [if_pos hn] at hm
      intro v σ' F' H' A S' go sa r nd
      obtain ⟨B, h1, h2, h3⟩ := outs sa
      refine hm v F' H' A B (Go.less go fun b hb => ?_) ⟨sa.ex, sa.nt, hcTb.mpr sa.tb⟩ (conv r) h1 (List.nodup_append.mpr ⟨(List.nodup_append.mp nd).1, h2, fun x hx y hy => (List.nodup_append.mp nd).2.2 x hx y (h3 y hy)⟩)
      rcases List.mem_append.mp hb with z | z
      · exact List.mem_append_left _ z
      · exact List.mem_append_right _ (h3 b z)
    · rw [if_neg hn] at hm
      exact hm.elim
  | ex n d τ' =>
    rw [e1] at hm
    dsimp only at hm
    by_cases hn : d.nk = true
    · rw [if_pos hn] at hm
      intro cv dx σ' F' H' S' go sa x
      obtain ⟨C, a, v, e1, e2, e3, e4, e5⟩ := x
      exact hm cv dx F' H' (Go.less go fun b z => by cases z) ⟨sa.ex, sa.nt, hcTb.mpr sa.tb⟩ ⟨C, a, v, by rw [← hcM]; exact e1, e2, e3, e4, conv e5⟩
    · rw [if_neg hn] at hm
      exact hm.elim
/-- THE RULE for a def -/
theorem fnA_of {x qual : Str} {st : Stmt} {f : Addr} {fd : FuncData} {N ps : List Str} {fx : Nat → Bool} {body : SDen} (Fn : Fun K x qual st f fd) (S : FnScope N ps (defScope st))
    (hbody : ∀ (c : Ctx) (A : Around) (outer : List Env) (s : Shared) (H : Hp) (E : XK), c.K = K → c.mg = mg → c.T = T → c.fx = fx → Room k (A.deeper (envOfC qual (defScope st) s.heap.objs.size f fd.code)) → CloG P w K mg base c LC outer s H →
      Tss (cxOf (L2N.CX P w) P w K mg base N qual (defScope st) f fd.code A outer s H E) c (defBody st) body) : FnA P w K mg base T LC (k + 1) f fd ps (fnD ps.length N.length fx body) :=
  ⟨fun c0 A outer s H args us vs Q E hK hM hT hr e0 hG hbb r hsp => fn_core Fn S c0 (fun c A outer s H E _ => hbody c A outer s H E) A outer s H args us vs Q E hK hM hT hr e0 hG hbb r hsp⟩
theorem FnA.y {f : Addr} {fd : FuncData} {ps : List Str} {fx : Nat → Bool} {n : Nat} {body : SDen} (h : FnA P w K mg base T LC k f fd ps (fnD ps.length n fx body)) (hb : Binds K fd ps []) : FnY P w K mg base T LC k f (fnD ps.length n fx body) := by
  refine ⟨fun c A outer s H us vs Q E hK hM hT hr e0 hG r hsp => ?_⟩
  have KX : K.In s.heap := e0.mod.kin.keeps fun b o e => (e0.bs b o e).1
  have lv : vs.length = ps.length := by
    obtain ⟨F, ds, A0, fin, hFB, rds, nd, hm⟩ := hsp
    rw [rds.length]
    by_cases z : ds.length = ps.length
    · exact z
    · unfold fnD at hm
      rw [if_neg z] at hm
      exact hm.elim
  have hl : us.length = ps.length := by rw [← r.length]; exact lv
  have hbb := hb s us KX (by rw [List.append_nil]; exact hl)
  rw [List.append_nil] at hbb
  exact h.run c A outer s H ⟨us, []⟩ us vs Q E hK hM hT hr e0 hG hbb r hsp
theorem fnY_of {x qual : Str} {st : Stmt} {f : Addr} {fd : FuncData} {N ps : List Str} {fx : Nat → Bool} {body : SDen} (Fn : Fun K x qual st f fd) (S : FnScope N ps (defScope st)) (hb : Binds K fd ps [])
    (hbody : ∀ (c : Ctx) (A : Around) (outer : List Env) (s : Shared) (H : Hp) (E : XK), c.K = K → c.mg = mg → c.T = T → c.fx = fx → Room k (A.deeper (envOfC qual (defScope st) s.heap.objs.size f fd.code)) → CloG P w K mg base c LC outer s H →
      Tss (cxOf (L2N.CX P w) P w K mg base N qual (defScope st) f fd.code A outer s H E) c (defBody st) body) : FnY P w K mg base T LC (k + 1) f (fnD ps.length N.length fx body) := (fnA_of Fn S hbody).y hb
end

/-! ### a call -/
def okA (τ : List D) : List Hdl → Bool
  | [] => true
  | .val _ :: hs => okA τ hs
  | .slot i :: hs => (match τ[i]? with
    | none => false
    | some .un => false
    | some d => d.pl || !(hs.any fun h => match h with
      | .slot j => i == j
      | .val _ => false)) && okA τ hs
def lendD : List Hdl → List D → List D
  | [], τ => τ
  | .val _ :: hs, τ => lendD hs τ
  | .slot i :: hs, τ => match τ[i]? with
    | some d => if d.pl then lendD hs τ else lendD hs (τ.set i .un)
    | none => lendD hs τ
def wbD : List Hdl → List D → List D → List D → List D
  | .slot i :: hs, d :: ds, p :: ps, τ => if d.pl then wbD hs ds ps τ else wbD hs ds ps (τ.set i p)
  | .val _ :: hs, _ :: ds, _ :: ps, τ => wbD hs ds ps τ
  | _, _, _, τ => τ
section
variable {c : Ctx} {F H : Hp} {σ : L2.St}
theorem get_other {τ : List D} {i : Nat} {x : D} {h : Hdl} (hi : ¬ h = .slot i) : h.get (τ.set i x) = h.get τ := by
  cases h with
  | val d => rfl
  | slot j =>
    have ne : i ≠ j := fun z => hi (by rw [z])
    show ((τ.set i x)[j]?).getD .un = (τ[j]?).getD .un
    rw [List.getElem?_set_ne ne]
theorem okA_other {i : Nat} {x : D} : ∀ {hs : List Hdl} {τ : List D}, (∀ h ∈ hs, ¬ h = .slot i) → okA (τ.set i x) hs = okA τ hs
  | [], τ, _ => rfl
  | .val _ :: hs, τ, h => okA_other (hs := hs) fun g hg => h g (List.mem_cons_of_mem _ hg)
  | .slot j :: hs, τ, h => by
    have ne : i ≠ j := fun z => h (.slot j) List.mem_cons_self (by rw [z])
    unfold okA
    rw [List.getElem?_set_ne ne, okA_other (hs := hs) fun g hg => h g (List.mem_cons_of_mem _ hg)]
theorem lend_sound : ∀ {hs : List Hdl} {vs : List V} {τ : List D} {S A : List Addr}, okA τ hs = true → RelHs c F H σ hs vs A → SA c F H σ τ S → (A ++ S).Nodup →
    ∃ A2 S2, Rels c F H (hs.map (Hdl.get τ)) vs A2 ∧ SA c F H σ (lendD hs τ) S2 ∧ (A2 ++ S2).Nodup ∧ ∀ b ∈ A2 ++ S2, b ∈ A ++ S
  | [], vs, τ, S, A, ok, r, sa, nd => by
    obtain ⟨rfl, rfl⟩ := r
    exact ⟨[], S, Rels.nil, sa, sa.nd, fun b hb => hb⟩
  | .val d :: hs, vs, τ, S, A, ok, r, sa, nd => by
    obtain ⟨v, ws, B, C, rfl, rfl, r1, r2⟩ := r
    have n1 := List.nodup_append.mp nd
    have n2 := List.nodup_append.mp n1.1
    obtain ⟨A2, S2, h1, h2, h3, h4⟩ := lend_sound (hs := hs) ok r2 sa (List.nodup_append.mpr ⟨n2.2.1, n1.2.1, fun x hx y hy => n1.2.2 x (List.mem_append_right _ hx) y hy⟩)
    refine ⟨B ++ A2, S2, ⟨v, ws, B, A2, rfl, rfl, r1, h1⟩, h2, ?_, fun b hb => ?_⟩
    · rw [List.append_assoc]
      refine List.nodup_append.mpr ⟨n2.1, h3, fun x hx y hy z => ?_⟩
      subst z
      rcases List.mem_append.mp (h4 x hy) with z | z
      · exact n2.2.2 x hx x z rfl
      · exact n1.2.2 x (List.mem_append_left _ hx) x z rfl
    · rw [List.append_assoc] at hb ⊢
      rcases List.mem_append.mp hb with z | z
      · exact List.mem_append_left _ z
      · exact List.mem_append_right _ (h4 b z)
  | .slot i :: hs, vs, τ, S, A, ok, r, sa, nd => by
    obtain ⟨v, ws, B, C, rfl, rfl, r1, r2⟩ := r
    obtain ⟨e1, rfl⟩ := r1
    rw [List.nil_append] at nd ⊢
    unfold okA at ok
    rw [Bool.and_eq_true] at ok
    obtain ⟨ok1, ok2⟩ := ok
    cases hi : τ[i]? with
    | none => rw [hi] at ok1; cases ok1
    | some d =>
      rw [hi] at ok1
      have hn : d ≠ .un := fun z => by subst z; cases ok1
      have ok1 : (d.pl || !(hs.any fun h => match h with
        | .slot j => i == j
        | .val _ => false)) = true := by cases d <;> first | exact ok1 | exact (hn rfl).elim
      have eg : Hdl.get τ (.slot i) = d := by
        show (τ[i]?).getD .un = d
        rw [hi]
        rfl
      unfold lendD
      rw [hi]
      dsimp only
      by_cases hp : d.pl = true
      · rw [if_pos hp]
        obtain ⟨A2, S2, h1, h2, h3, h4⟩ := lend_sound (hs := hs) ok2 r2 sa nd
        obtain ⟨x, A0, B1, B2, e2, _, rr, _⟩ := Slots.at sa.sl hi
        rw [e1] at e2
        cases e2
        rcases slotR_of rr with ⟨z, _⟩ | ⟨v', z, r'⟩
        · exact (hn z).elim
        · cases z
          have z := r'.pl_nil hp
          subst z
          refine ⟨A2, S2, ⟨v, ws, [], A2, rfl, rfl, ?_, h1⟩, h2, h3, h4⟩
          rw [eg]
          exact r'
      · rw [if_neg hp]
        have hany : (hs.any fun h => match h with
          | .slot j => i == j
          | .val _ => false) = false := by
          cases hq : d.pl with
          | true => exact (hp hq).elim
          | false => rw [hq] at ok1; simpa using ok1
        have nosl : ∀ h ∈ hs, ¬ h = .slot i := fun h hh z => by
          subst z
          have q := List.any_eq_false.mp hany _ hh
          simp at q
        obtain ⟨v', A0, S1, e2, rr, sa1, nd1, hm1⟩ := sa.take hi hn
        rw [e1] at e2
        cases e2
        have ndC : (C ++ S1).Nodup := List.nodup_append.mpr ⟨(List.nodup_append.mp nd).1, sa1.nd, fun x hx y hy => (List.nodup_append.mp nd).2.2 x hx y ((hm1 y).mp (List.mem_append_right _ hy))⟩
        obtain ⟨A2, S2, h1, h2, h3, h4⟩ := lend_sound (hs := hs) (τ := τ.set i .un) (by rw [okA_other nosl]; exact ok2) r2 sa1 ndC
        have em : hs.map (Hdl.get (τ.set i .un)) = hs.map (Hdl.get τ) := List.map_congr_left fun h hh => get_other (nosl h hh)
        rw [em] at h1
        refine ⟨A0 ++ A2, S2, ⟨v, ws, A0, A2, rfl, rfl, ?_, h1⟩, h2, ?_, fun b hb => ?_⟩
        · rw [eg]
          exact rr
        · rw [List.append_assoc]
          refine List.nodup_append.mpr ⟨(List.nodup_append.mp nd1).1, h3, fun x hx y hy z => ?_⟩
          subst z
          rcases List.mem_append.mp (h4 x hy) with z | z
          · exact (List.nodup_append.mp nd).2.2 x z x ((hm1 x).mp (List.mem_append_left _ hx)) rfl
          · exact (List.nodup_append.mp nd1).2.2 x hx x z rfl
        · rw [List.append_assoc] at hb
          rcases List.mem_append.mp hb with z | z
          · exact List.mem_append_right _ ((hm1 b).mp (List.mem_append_left _ z))
          · rcases List.mem_append.mp (h4 b z) with z | z
            · exact List.mem_append_left _ z
            · exact List.mem_append_right _ ((hm1 b).mp (List.mem_append_right _ z))
/-- a slot gets what is in hand; its value stays -/
theorem SA.reput {τ : List D} {S A : List Addr} (sa : SA c F H σ τ S) {i : Nat} {d : D} {x : Option V} (r : SlotR c F H x d A) (nd : (A ++ S).Nodup) (hx : σ[i]? = some x) : ∃ S', SA c F H σ (τ.set i d) S' ∧ ∀ b ∈ S', b ∈ A ++ S := by
  cases hi : τ[i]? with
  | none =>
    have l1 := sa.sl.length
    have l2 := List.getElem?_eq_none_iff.mp hi
    have := (List.getElem?_eq_some_iff.mp hx).1
    omega
  | some d0 =>
    obtain ⟨y, A0, B1, B2, e1, rfl, r1, k⟩ := Slots.at sa.sl hi
    have n1 := List.nodup_append.mp nd
    have n2 := List.nodup_append.mp n1.2.1
    have n3 := List.nodup_append.mp n2.2.1
    have q := k F H x d A (fun _ _ h => h) (fun b hb => ⟨rfl, (sa.owned b (by
      rcases List.mem_append.mp hb with y | y
      · exact List.mem_append_left _ y
      · exact List.mem_append_right _ (List.mem_append_right _ y))).1⟩) r
    rw [set_same hx] at q
    refine ⟨B1 ++ (A ++ B2), ⟨sa.ex, sa.nt, sa.fb, sa.tb, q, ?_, sa.fx⟩, fun b hb => ?_⟩
    · refine List.nodup_append.mpr ⟨n2.1, List.nodup_append.mpr ⟨n1.1, n3.2.1, fun x hx y hy => n1.2.2 x hx y (List.mem_append_right _ (List.mem_append_right _ hy))⟩, fun x hx y hy z => ?_⟩
      subst z
      rcases List.mem_append.mp hy with hy | hy
      · exact n1.2.2 x hy x (List.mem_append_left _ hx) rfl
      · exact n2.2.2 x hx x (List.mem_append_right _ hy) rfl
    · rcases List.mem_append.mp hb with y | y
      · exact List.mem_append_right _ (List.mem_append_left _ y)
      · rcases List.mem_append.mp y with y | y
        · exact List.mem_append_left _ y
        · exact List.mem_append_right _ (List.mem_append_right _ (List.mem_append_right _ y))
theorem wb_sound : ∀ {hs : List Hdl} {vs : List V} {ds ps : List D} {τ : List D} {S B A : List Addr} {F0 H0 : Hp}, RelHs c F0 H0 σ hs vs A → SA c F H σ τ S → Slots c F H (vs.map some) ps B → (B ++ S).Nodup →
    ∃ S2, SA c F H σ (wbD hs ds ps τ) S2 ∧ ∀ b ∈ S2, b ∈ B ++ S
  | [], vs, ds, ps, τ, S, B, A, F0, H0, r, sa, sp, nd => ⟨S, by unfold wbD; exact sa, fun b hb => List.mem_append_right _ hb⟩
  | .val d :: hs, vs, [], ps, τ, S, B, A, F0, H0, r, sa, sp, nd => ⟨S, by unfold wbD; exact sa, fun b hb => List.mem_append_right _ hb⟩
  | .slot d :: hs, vs, [], ps, τ, S, B, A, F0, H0, r, sa, sp, nd => ⟨S, by unfold wbD; exact sa, fun b hb => List.mem_append_right _ hb⟩
  | .val d :: hs, vs, _ :: ds, [], τ, S, B, A, F0, H0, r, sa, sp, nd => ⟨S, by unfold wbD; exact sa, fun b hb => List.mem_append_right _ hb⟩
  | .slot d :: hs, vs, _ :: ds, [], τ, S, B, A, F0, H0, r, sa, sp, nd => ⟨S, by unfold wbD; exact sa, fun b hb => List.mem_append_right _ hb⟩
  | .val d :: hs, vs, d0 :: ds, p :: ps, τ, S, B, A, F0, H0, r, sa, sp, nd => by
    obtain ⟨v, ws, B0, C, rfl, rfl, r1, r2⟩ := r
    obtain ⟨Bp, B', rfl, q1, q2⟩ := sp
    have n1 := List.nodup_append.mp nd
    have n2 := List.nodup_append.mp n1.1
    obtain ⟨S2, h1, h2⟩ := wb_sound (hs := hs) (ds := ds) (ps := ps) r2 sa q2 (List.nodup_append.mpr ⟨n2.2.1, n1.2.1, fun x hx y hy => n1.2.2 x (List.mem_append_right _ hx) y hy⟩)
    refine ⟨S2, h1, fun b hb => ?_⟩
    rcases List.mem_append.mp (h2 b hb) with z | z
    · exact List.mem_append_left _ (List.mem_append_right _ z)
    · exact List.mem_append_right _ z
  | .slot i :: hs, vs, d0 :: ds, p :: ps, τ, S, B, A, F0, H0, r, sa, sp, nd => by
    obtain ⟨v, ws, B0, C, rfl, rfl, r1, r2⟩ := r
    obtain ⟨Bp, B', rfl, q1, q2⟩ := sp
    obtain ⟨e1, rfl⟩ := r1
    have n1 := List.nodup_append.mp nd
    have n2 := List.nodup_append.mp n1.1
    have nB : (B' ++ S).Nodup := List.nodup_append.mpr ⟨n2.2.1, n1.2.1, fun x hx y hy => n1.2.2 x (List.mem_append_right _ hx) y hy⟩
    unfold wbD
    by_cases hp : d0.pl = true
    · rw [if_pos hp]
      obtain ⟨S2, h1, h2⟩ := wb_sound (hs := hs) (ds := ds) (ps := ps) r2 sa q2 nB
      refine ⟨S2, h1, fun b hb => ?_⟩
      rcases List.mem_append.mp (h2 b hb) with z | z
      · exact List.mem_append_left _ (List.mem_append_right _ z)
      · exact List.mem_append_right _ z
    · rw [if_neg hp]
      obtain ⟨S1, s1, m1⟩ := sa.reput q1 (List.nodup_append.mpr ⟨n2.1, n1.2.1, fun x hx y hy => n1.2.2 x (List.mem_append_left _ hx) y hy⟩) e1
      obtain ⟨S2, h1, h2⟩ := wb_sound (hs := hs) (ds := ds) (ps := ps) r2 s1 q2 (List.nodup_append.mpr ⟨n2.2.1, s1.nd, fun x hx y hy z => by
        subst z
        rcases List.mem_append.mp (m1 x hy) with z | z
        · exact n2.2.2 x z x hx rfl
        · exact n1.2.2 x (List.mem_append_right _ hx) x z rfl⟩)
      refine ⟨S2, h1, fun b hb => ?_⟩
      rcases List.mem_append.mp (h2 b hb) with z | z
      · exact List.mem_append_left _ (List.mem_append_right _ z)
      · rcases List.mem_append.mp (m1 b z) with z | z
        · exact List.mem_append_left _ (List.mem_append_left _ z)
        · exact List.mem_append_right _ z
end
def callD (den : List D → Rt) (g : Den (List Hdl)) : Den Hdl := fun τ => (g τ).bind fun hs τ1 => if okA τ1 hs = true then (match den (hs.map (Hdl.get τ1)) with
  | .ok d ps => .ok (.val d) (wbD hs (hs.map (Hdl.get τ1)) ps (lendD hs τ1))
  | .ex n d => .ex n d (lendD hs τ1)
  | .bad => .bad) else .bad
/-- the closures in sight of X's state -/
def CloAt (X : Cx) (c : Ctx) (LC : Nat) : Prop := (c.G = fun _ => none) ∨ (X.ex = [] ∧ CloG X.prog X.w X.K X.mg X.base c LC X.outer X.s_0 X.H_0)
section
variable {X : Cx} {c : Ctx} {e : Expr} {es : List Expr} {g : Den (List Hdl)} {LC k : Nat}
theorem CloAt.at {pins : List (Addr × Obj)} {σ : L2.St} {H : Hp} {s : Shared} (h : CloAt X c LC) (I : Inv X pins σ H s) : CloG X.prog X.w X.K X.mg X.base c LC X.stack s H := by
  rcases h with h | ⟨h1, h2⟩
  · intro f r e
    rw [h] at e
    cases e
  · have un : Un X.fs X.ex X.H_0 H X.s_0.heap s.heap := I.base
    rw [h1] at un
    intro f r e
    obtain ⟨a1, a2, a3⟩ := h2 f r e
    obtain ⟨oc, od, fd, sl, ho⟩ := a1
    obtain ⟨sl', h3⟩ := un.any ho a2 (by simp)
    refine ⟨⟨_, _, _, _, h3⟩, un.free f _ ho a2 (by simp), fun A outer s2 H2 fs' Q E b1 b2 b5 b3 b4 => a3 A outer s2 H2 (X.fs ++ fs') Q E b1 b2 (fun b o hb hf => ?_) (Y.Un.two un b3) b4⟩
    rcases List.mem_append.mp hf with z | z
    · exact z
    · obtain ⟨o', ho'⟩ := un.there b o hb (by simp)
      rcases List.mem_cons.mp (I.stkSub b (b5 b o' ho' z)) with y | y
      · have := I.ok.above
        rw [← y] at this
        exact absurd (Nat.lt_of_lt_of_le (Heap.lt_size hb) this) (Nat.lt_irrefl _)
      · exact y
/-- f(..) by values, from a running body -/
theorem run_Y {f : Addr} {den : List D → Rt} {pins : List (Addr × Obj)} {σ : L2.St} {H : Hp} {s : Shared} {Q : VK} {W : WX} {us : List Value} {vs : List V} (G : FnY X.prog X.w X.K X.mg X.base c.T LC k f den) (hK : c.K = X.K) (hM : c.mg = X.mg) (hr : Room k X.A) (hG : CloAt X c LC) (tk : L2N.Takes X W)
    (I : Inv X pins σ H s) (r : Vals vs us) (h : spY c den vs H Q (fun cv dx H' => W cv dx σ H')) : wpAny (model X.prog X.w) X.A (call (.ref f) us) (EP X pins σ Q) X.xe s := by
  refine wpAny_call (codeAny_mono (G.run c X.A X.stack s H us vs Q (fun cv dx H' => W cv dx σ H') hK hM rfl hr I.env0 (hG.at I) r h) fun r s' hq => ?_)
  cases r with
  | error e => exact L2N.passAt tk σ pins H s e s' I hq
  | ok fl =>
    cases fl with
    | ret u => exact I.after hq
    | next => exact False.elim hq
    | brk => exact False.elim hq
    | cont => exact False.elim hq
theorem call_sound {den : List D → Rt} {W : WX} {σ : L2.St} {H : Hp} {Q : VK} (h : tE c (callD den g) W σ H Q) : tA c g W σ H fun vs H1 => spY c den vs H1 Q (fun cv dx H' => W cv dx σ H') := by
  obtain ⟨τ, F, S, sa, h⟩ := h
  refine ⟨τ, F, S, sa, ?_⟩
  unfold callD at h
  cases e1 : g τ with
  | bad => rw [e1] at h; exact h
  | ex n d τ' => rw [e1] at h; exact h
  | ok hs τ1 =>
    rw [e1] at h
    intro vs F1 H1 A1 S1 g1 sa1 r1 nd1
    dsimp only [Rz.bind] at h
    by_cases ok : okA τ1 hs = true
    · rw [if_pos ok] at h
      obtain ⟨A2, S2, q1, sa2, nd2, hm2⟩ := lend_sound ok r1 sa1 nd1
      have n2 := List.nodup_append.mp nd2
      refine ⟨F1, _, A2, ⟨sa1.ex, sa1.nt, sa1.tb⟩, sa1.fb, q1, n2.1, ?_⟩
      -- what is beside
      have beside : ∀ {F' H' : Hp} {B : List Addr}, Go F1 H1 A2 F' H' B → Fin' c F' H' → SA c F' H' σ (lendD hs τ1) S2 ∧ (∀ x ∈ S2, x ∉ B) := fun {F' H' B} go fin => by
        have k := Go.hand go (fun x hx => sa2.owned x hx) (by
          have := List.nodup_append.mpr ⟨n2.2.1, n2.1, fun x hx y hy z => n2.2.2 y hy x hx z.symm⟩
          exact this)
        exact ⟨⟨fin.ex, fin.nt, fun b o z => go.f b o (sa2.fb b o z), fin.tb, Slots.mono go.f sa2.sl fun x hx => ⟨(k x hx).1, (k x hx).2.1⟩, sa2.nd, sa2.fx⟩, fun x hx => (k x hx).2.2⟩
      have gA : ∀ {F' H' : Hp} {B R : List Addr}, Go F1 H1 A2 F' H' B → (∀ b ∈ R, b ∈ B ++ S2) → Go F1 H1 (A1 ++ S1) F' H' R := fun {F' H' B R} go sub => by
        refine ⟨go.f, fun b o e1 e2 hx => go.h b o e1 e2 fun z => hx (hm2 b (List.mem_append_left _ z)), fun b hb => ?_, fun b o e1 => ?_⟩
        · rcases List.mem_append.mp (sub b hb) with z | z
          · rcases go.s b z with z | z
            · exact .inl (hm2 b (List.mem_append_left _ z))
            · exact .inr z
          · exact .inl (hm2 b (List.mem_append_right _ z))
        · rcases go.n b o e1 with z | z | z
          · exact .inl z
          · exact .inr (.inl (hm2 b (List.mem_append_left _ z)))
          · exact .inr (.inr z)
      cases e2 : den (hs.map (Hdl.get τ1)) with
      | bad => rw [e2] at h; exact h.elim
      | ex n d =>
        rw [e2] at h
        intro cv dx F' H' go fin x
        obtain ⟨sa3, _⟩ := beside go fin
        exact (show Post c (fun F H => RelH c F H σ) W F H σ S Q (.ex n d (lendD hs τ1)) from h) cv dx F' H' S2 (Go.trans0 g1 (gA go fun b hb => List.mem_append_right _ hb)) sa3 x
      | ok d ps =>
        rw [e2] at h
        intro v F' H' B B' go fin rr sl nd
        obtain ⟨sa3, dis⟩ := beside go fin
        have nb := List.nodup_append.mp nd
        obtain ⟨S4, sa4, hm4⟩ := wb_sound (ds := hs.map (Hdl.get τ1)) r1 sa3 sl (List.nodup_append.mpr ⟨nb.2.1, n2.2.1, fun x hx y hy z => by
          subst z
          exact dis x hy (List.mem_append_right _ hx)⟩)
        refine (show Post c (fun F H => RelH c F H σ) W F H σ S Q (.ok (.val d) (wbD hs (hs.map (Hdl.get τ1)) ps (lendD hs τ1))) from h) v F' H' B S4 (Go.trans0 g1 (gA go fun b hb => ?_)) sa4 rr (List.nodup_append.mpr ⟨nb.1, sa4.nd, fun x hx y hy z => ?_⟩)
        · rcases List.mem_append.mp hb with z | z
          · exact List.mem_append_left _ (List.mem_append_left _ z)
          · rcases List.mem_append.mp (hm4 b z) with z | z
            · exact List.mem_append_left _ (List.mem_append_right _ z)
            · exact List.mem_append_right _ z
        · subst z
          rcases List.mem_append.mp (hm4 x hy) with z | z
          · exact nb.2.2 x hx x z rfl
          · exact dis x z (List.mem_append_left _ hx)
    · rw [if_neg ok] at h
      exact h.elim
theorem t_call {f : Addr} {den : List D → Rt} {x : Str} {p pos : Pos} (G : FnY X.prog X.w X.K X.mg X.base c.T LC k f den) (hK : c.K = X.K) (hM : c.mg = X.mg) (hr : Room k X.A) (hG : CloAt X c LC) (hm : X.mg x = some (.ref f)) (hk : PySem.W.keepIn X.K (.ref f) = true)
    (ha : TrA X c (e :: es) g) (hg : Gl X x := by rfl) (hdb : (x == ("__debug__" : Str)) = false := by decide) (he : starEach (e :: es) X.env = (false, eval e X.env) :: starEach es X.env := by rfl) (hpl : (backTo pos (starEach es X.env)).any (·.1) = false := by rfl) :
    Tr X c (.Call (.Name x p) (e :: es) [] pos) (callD den g) := by
  refine ⟨fun W tk => ⟨fun pins s σ H Q I h => ?_⟩⟩
  refine wpAny_Call_Name_kw (ld_glob I hg hm ?_ hdb)
  refine PySem.W.callWith_K (h₀ := X.base) I.ok.mod.kin hk (thn ((ha.pa W tk).run pos pins s σ H _ I (call_sound h)) fun us s1 ⟨vs, H1, I1, r, q⟩ => ⟨I1.kIn, ?_⟩) he hpl
  exact run_Y G hK hM hr hG tk I1 r q
theorem t_call0 {f : Addr} {den : List D → Rt} {x : Str} {p pos : Pos} (G : FnY X.prog X.w X.K X.mg X.base c.T LC k f den) (hK : c.K = X.K) (hM : c.mg = X.mg) (hr : Room k X.A) (hG : CloAt X c LC) (hm : X.mg x = some (.ref f)) (hk : PySem.W.keepIn X.K (.ref f) = true)
    (hg : Gl X x := by rfl) (hdb : (x == ("__debug__" : Str)) = false := by decide) : Tr X c (.Call (.Name x p) [] [] pos) (callD den anil) := by
  refine ⟨fun W tk => ⟨fun pins s σ H Q I h => ?_⟩⟩
  refine wpAny_Call_Name_kw (ld_glob I hg hm ?_ hdb)
  refine PySem.W.callWith_K0 I.kIn hk ?_
  obtain ⟨τ, F, S, sa, q⟩ := call_sound h
  exact run_Y G hK hM hr hG tk I .nil (q [] F H [] S Go.refl sa ⟨rfl, rfl⟩ sa.nd)
end
end Y
end

section
set_option Elab.async false
set_option linter.all false
set_option maxRecDepth 100000
set_option maxHeartbeats 4000000
/-! Y10: closures: a lambda without parameters, handed to a def, called there. -/
namespace Y
open PySem PySem.Spec PyProof.Rows L2
/-- the context of a lambda's body, over L2N -/
abbrev lamCy (X : Cx) (A : Around) (outer : List Env) (s : Shared) (H : Hp) (E : XK) (scope : Scope) (f c' : Addr) : Cx :=
  (LamX.lamCx X A outer s H E scope f c').tr [] (fun e s' => wpAny (model X.prog X.w) (A.deeper (LamX.lamEnv X scope s.heap.objs.size f c')) (leaving (LamX.lamEnv X scope s.heap.objs.size f c') e) (fun _ s'' => L2N.CX X.prog X.w outer H s E e s'') (fun e' s'' => L2N.CX X.prog X.w outer H s E e' s'') s')

section
variable {c : Ctx} {F H F1 H1 : Hp} {σ : L2.St} {τ : List D} {S A B : List Addr}
/-- what is beside a call stays -/
theorem SA.beside (sa : SA c F H σ τ S) (go : Go F H A F1 H1 B) (fin : Fin' c F1 H1) (nd : (A ++ S).Nodup) : SA c F1 H1 σ τ S ∧ (∀ x ∈ S, x ∉ B) := by
  have n2 := List.nodup_append.mp nd
  have k := Go.hand go (fun x hx => sa.owned x hx) (List.nodup_append.mpr ⟨n2.2.1, n2.1, fun x hx y hy z => n2.2.2 y hy x hx z.symm⟩)
  exact ⟨⟨fin.ex, fin.nt, fun b o z => go.f b o (sa.fb b o z), fin.tb, Slots.mono go.f sa.sl fun x hx => ⟨(k x hx).1, (k x hx).2.1⟩, sa.nd, sa.fx⟩, fun x hx => (k x hx).2.2⟩
/-- with what is beside -/
theorem Go.wide {R S0 : List Addr} (go : Go F H A F1 H1 B) (h1 : ∀ b ∈ A, b ∈ S0) (h2 : ∀ b ∈ R, b ∈ B ∨ b ∈ S0) : Go F H S0 F1 H1 R :=
  ⟨go.f, fun b o e1 e2 hx => go.h b o e1 e2 fun z => hx (h1 b z), fun b hb => (h2 b hb).elim (fun z => (go.s b z).elim (fun z => .inl (h1 b z)) .inr) .inl,
    fun b o e1 => (go.n b o e1).elim .inl fun z => z.elim (fun z => .inr (.inl (h1 b z))) fun z => .inr (.inr z)⟩
end
section
variable {X : Cx} {c : Ctx} {e : Expr} {es : List Expr} {g : Den (List Hdl)} {LC k : Nat}
/-- f(), f a slot that holds a closure -/
def cloD (i : Nat) : Den Hdl := fun τ => match τ[i]? with
  | some (.tok d) => .ok (.val d) τ
  | some (.tex n d) => .ex n d τ
  | _ => .bad
theorem t_clo {i : Nat} {a : Str} {p1 p2 : Pos} (hr : Room LC X.A) (hG : CloAt X c LC) (hN : X.N[i]? = some a := by rfl) (hv : Vis X.env.scope a := by first | exact Or.inl rfl | exact Or.inr (Or.inl rfl) | exact Or.inr (Or.inr rfl)) (hd : (a == ("__debug__" : Str)) = false := by decide)
    (hcd : (a == ("__classdict__" : Str)) = false := by decide) : Tr X c (.Call (.Name a p1) [] [] p2) (cloD i) := by
  refine ⟨fun W tk => ⟨fun pins s σ H Q I h => ?_⟩⟩
  obtain ⟨τ, F, S, sa, h⟩ := h
  unfold cloD at h
  obtain ⟨d0, e0⟩ : ∃ d0, τ[i]? = some d0 := by
    cases e0 : τ[i]? with
    | none => rw [e0] at h; exact h.elim
    | some d => exact ⟨d, rfl⟩
  rw [e0] at h
  obtain ⟨x, A, B1, B2, e1, _, rr, _⟩ := Slots.at sa.sl e0
  have hs : ∃ f, σ[i]? = some (some (.ref f)) ∧ c.G f = some d0 := by
    rcases slotR_of rr with ⟨rfl, _⟩ | ⟨v, rfl, r⟩
    · exact h.elim
    · cases d0 <;> first | exact h.elim | skip
      · obtain ⟨f, rfl, hf, _⟩ := r
        exact ⟨f, e1, hf⟩
      · obtain ⟨f, rfl, hf, _⟩ := r
        exact ⟨f, e1, hf⟩
  obtain ⟨f, hs, hf⟩ := hs
  have C := hG.at I f d0 hf
  refine wpAny_Call_Name_kw (thn ((pe_var (pos := p1) hN hv hd hcd).run pins s σ H (fun v H1 => v = .ref f ∧ H1 = H) I ⟨.ref f, hs, rfl, rfl⟩) fun u s1 ⟨v, H1, I1, r1, q1⟩ => ?_)
  obtain ⟨ev, eH⟩ := q1
  subst ev
  rw [eH] at I1
  obtain rfl : u = Value.ref f := r1
  have C1 := hG.at I1 f d0 hf
  refine PySem.W.callWith_F0 C1.fn ?_
  have sp : spZ c d0 H Q (fun cv dx H' => W cv dx σ H') := by
    refine ⟨F, sa.fin, sa.fb, ?_⟩
    cases d0 <;> first | exact h.elim | skip
    · intro v F' H' B go fin r nd
      obtain ⟨sa', dis⟩ := sa.beside go fin sa.nd
      exact (show Post c (fun F H => RelH c F H σ) W F H σ S Q (.ok (.val _) τ) from h) v F' H' B S (go.wide (fun b z => by cases z) fun b hb => List.mem_append.mp hb) sa' r (List.nodup_append.mpr ⟨nd, sa'.nd, fun x hx y hy z => dis y hy (z ▸ hx)⟩)
    · intro cv dx F' H' go fin x
      obtain ⟨sa', dis⟩ := sa.beside go fin sa.nd
      exact (show Post c (fun F H => RelH c F H σ) W F H σ S Q (.ex _ _ τ) from h) cv dx F' H' S (go.wide (fun b z => by cases z) fun b hb => .inr hb) sa' x
  refine wpAny_call (codeAny_mono (C1.run X.A X.stack s1 H [] Q (fun cv dx H' => W cv dx σ H') hr I1.env0 (fun b o _ z => by cases z) Un.refl sp) fun r s' hq => ?_)
  cases r with
  | error e => exact L2N.passAt tk σ pins H s1 e s' I1 hq
  | ok fl =>
    cases fl with
    | ret u => exact I1.after hq
    | next => exact False.elim hq
    | brk => exact False.elim hq
    | cont => exact False.elim hq

/-! ### a lambda handed to a def -/
def frzAll : List Nat → List D → Option (List D)
  | [], τ => some τ
  | i :: cap, τ => match τ[i]? with
    | none => none
    | some .un => none
    | some d => if d.nk then frzAll cap (τ.set i d.frz) else none
def onlyD : List Nat → Nat → List D → List D
  | _, _, [] => []
  | cap, j, d :: τ => (if cap.contains j && d.pl && d.nk then d else .un) :: onlyD cap (j + 1) τ
def cloOf (fb : Den Hdl) (cap : List Nat) (τ : List D) : Option D := match fb (onlyD cap 0 τ) with
  | .ok (.val d) _ => if d.nk then some (.tok d) else none
  | .ex n d _ => if d.nk then some (.tex n d) else none
  | _ => none
def nkU : D → Bool
  | .un => true
  | d => d.nk
def lamD (den : List D → Rt) (fb : Den Hdl) (cap : List Nat) (g : Den (List Hdl)) : Den Hdl := fun τ => match frzAll cap τ with
  | none => .bad
  | some τ1 => (match cloOf fb cap τ1 with
    | none => .bad
    | some r => (g τ1).bind fun hs τ2 => if okA τ2 hs && D.nks (hs.map (Hdl.get τ2)) then (match den (r :: hs.map (Hdl.get τ2)) with
      | .ok d (_ :: ps) => if d.nk && ps.all nkU then .ok (.val d) (wbD hs (hs.map (Hdl.get τ2)) ps (lendD hs τ2)) else .bad
      | .ex n d => if d.nk then .ex n d (lendD hs τ2) else .bad
      | _ => .bad) else .bad)
end
section
variable {c : Ctx} {F H F1 H1 : Hp} {σ : L2.St} {τ τ1 : List D} {S A B : List Addr}
theorem SA.frzAll : ∀ {cap : List Nat} {τ τ1 : List D} {F : Hp} {S : List Addr}, SA c F H σ τ S → frzAll cap τ = some τ1 → ∃ F' S', Go F H S F' H S' ∧ SA c F' H σ τ1 S'
  | [], τ, τ1, F, S, sa, e => by
    cases e
    exact ⟨F, S, Go.refl, sa⟩
  | i :: cap, τ, τ1, F, S, sa, e => by
    unfold Y.frzAll at e
    cases hi : τ[i]? with
    | none => rw [hi] at e; cases e
    | some d =>
      rw [hi] at e
      have hn : d ≠ .un := fun z => by subst z; cases e
      have e : (if d.nk then Y.frzAll cap (τ.set i d.frz) else none) = some τ1 := by cases d <;> first | exact e | exact (hn rfl).elim
      split at e <;> first | (cases e; done) | skip
      obtain ⟨F1, S1, v, g1, sa1, _, _⟩ := sa.freeze hi hn
      obtain ⟨F2, S2, g2, sa2⟩ := SA.frzAll sa1 e
      exact ⟨F2, S2, Go.trans0 g1 g2, sa2⟩
theorem slots_only {c' : Ctx} (hK : c'.K = c.K) (e : ∀ b o, F b = some o → F1 b = some o) (cap : List Nat) : ∀ {σ : L2.St} {τ : List D} {S : List Addr} (j : Nat), Slots c F H σ τ S → Slots c' F1 H1 σ (onlyD cap j τ) []
  | [], [], S, j, h => rfl
  | x :: σ, d :: τ, S, j, h => by
    obtain ⟨A, B, rfl, r, h⟩ := h
    refine ⟨[], [], rfl, ?_, slots_only hK e cap (j + 1) h⟩
    by_cases hq : (cap.contains j && d.pl && d.nk) = true
    · rw [if_pos hq]
      rw [Bool.and_eq_true, Bool.and_eq_true] at hq
      rcases slotR_of r with ⟨rfl, _⟩ | ⟨v, rfl, r'⟩
      · cases hq.1.2
      · exact slotR_mk (Rel.ctx hK (r'.any hq.1.2 e) hq.2)
    · rw [if_neg hq]
      rfl
theorem slotR_ctxN {c' : Ctx} (hK : c'.K = c.K) {x : Option V} {d : D} (h : SlotR c F H x d A) (n : nkU d = true) : SlotR c' F H x d A := by
  rcases slotR_of h with ⟨rfl, rfl⟩ | ⟨v, rfl, r⟩
  · rfl
  · refine slotR_mk (Rel.ctx hK r ?_)
    cases d <;> first | exact n | exact r.elim
theorem Slots.ctxN {c' : Ctx} (hK : c'.K = c.K) : ∀ {σ : L2.St} {τ : List D} {S : List Addr}, Slots c F H σ τ S → τ.all nkU = true → Slots c' F H σ τ S
  | [], [], S, h, n => h
  | x :: σ, d :: τ, S, h, n => by
    obtain ⟨A, B, rfl, r, h⟩ := h
    rw [List.all_cons, Bool.and_eq_true] at n
    exact ⟨A, B, rfl, slotR_ctxN hK r n.1, Slots.ctxN hK h n.2⟩
theorem ExP.ctx {c' : Ctx} (hK : c'.K = c.K) (hM : c'.mg = c.mg) {n : Str} {d : D} {cv : Value} {dx : Option Addr} (h : ExP c F H n d cv dx) (k : d.nk = true) : ExP c' F H n d cv dx := by
  obtain ⟨C, a, v, e1, e2, e3, e4, e5⟩ := h
  exact ⟨C, a, v, by rw [hM]; exact e1, e2, e3, e4, Rel.ctx hK e5 k⟩
theorem Un.narrow {fs f0 : List Addr} {H H1 : Hp} {h h1 : Heap} (u : Un fs [] H H1 h h1) (k : ∀ b o, h.get? b = some o → b ∈ fs → b ∈ f0) : Un f0 [] H H1 h h1 :=
  ⟨fun b o e n hb hx => u.keep b o e n (fun z => hb (k b o e z)) hx, fun b o e n _ hx => u.any e n hx, u.free, u.there, u.tups, u.frzs, u.tbls⟩
end
section
variable {X : Cx} {c : Ctx} {es : List Expr} {g : Den (List Hdl)} {LC k : Nat}
/-- the closure that stands behind the making of a lambda -/
theorem clo_made {params : Arguments} {body : Expr} {scope : Scope} {fb : Den Hdl} {cap : List Nat} {pins : List (Addr × Obj)} {σ : L2.St} {H1 F1 : Hp} {s' : Shared} {τ1 : List D} {S1 : List Addr} {f c' : Addr} {pm ctv : Value} {r : D} {cc : Ctx} {LB : Nat}
    (hK : c.K = X.K) (hM : c.mg = X.mg) (L : LamX.LamS X.env.scope scope)
    (hbind : ∀ (q : Str) (cl : List (Str × Addr)) (pm cv ctv : Value), bindArgs (PySem.W.kla_fn "<lambda>" q params body scope cl pm cv ctv) ⟨[], []⟩ = pure [])
    (hbody : ∀ (cl : Ctx) (A : Around) (outer : List Env) (s : Shared) (H : Hp) (E : XK) (f c' : Addr), cl.K = X.K → cl.mg = X.mg → cl.T = c.T → cl.G = (fun _ => none) → Room LB (A.deeper (LamX.lamEnv X scope s.heap.objs.size f c')) → Tr (lamCy X A outer s H E scope f c') cl body fb)
    (I : Inv X pins σ H1 s') {Hz : Hp} (sl0 : Slots c F1 Hz σ τ1 S1) (hr : cloOf fb cap τ1 = some r)
    (hf : s'.heap.get? f = some (PySem.W.kla_obj "<lambda>" (X.env.qual ++ "<lambda>") params body scope (cloFrom X.env.cells scope.names []) pm c' ctv)) (hfn : H1 f = none) (hco : H1 c' = some (LamX.CodeO c' (X.env.qual ++ "<lambda>")))
    (hc : cc = { c with G := fun a => if a = f then some r else none, FB := F1, CB := (c', X.env.qual ++ "<lambda>") :: c.CB }) : CloG X.prog X.w X.K X.mg X.base cc (LB + 1) X.stack s' H1 := by
  intro f' r' ef
  have ef : (if f' = f then some r else none) = some r' := by rw [hc] at ef; exact ef
  by_cases hff : f' = f
  · rw [if_pos hff] at ef
    cases ef
    subst hff
    refine ⟨⟨_, _, _, _, hf⟩, hfn, fun A outer s1 HZ fs Q E hro e0 hfs un sp => ?_⟩
    have un' : Un (frs X.stack) [] H1 HZ s'.heap s1.heap := Un.narrow un hfs
    obtain ⟨F, fin, hFB, hm⟩ := sp
    have of1 : ∃ sl, s1.heap.get? f' = some { PySem.W.kla_obj "<lambda>" (X.env.qual ++ "<lambda>") params body scope (cloFrom X.env.cells scope.names []) pm c' ctv with slots := sl } := un'.any hf hfn (by simp)
    obtain ⟨sl, of1⟩ := of1
    have hcod : HZ c' = some (LamX.CodeO c' (X.env.qual ++ "<lambda>")) := fin.tb.code (c', X.env.qual ++ "<lambda>") (by rw [hc]; exact List.mem_cons_self)
    obtain ⟨⟨oc, vs, t, hoc, hdc, hvc⟩, _, _⟩ := e0.hok c' _ hcod
    have lim : s1.heap.NoLimit := e0.mod.nolimit.keeps fun b o e => (e0.bs b o e).1
    refine PySem.W.kla_callFunE hro.depth of1 rfl L.co L.gen rfl ⟨c', oc, vs, t, rfl, hoc, hdc, hvc⟩ ?_
    rw [hbind]
    refine wpAny_pure (wpAny_newFunctionEnv (fun y hy => (L.own y hy).2) (fun y hy => absurd hy (by simp)) (fun h₁ hns hsb => ⟨lim.fresh _ hsb, ?_⟩) L.kind)
    show codeAny _ _ (.expr body (LamX.lamEnv X scope s1.heap.objs.size f' c')) _ _
    have kp : ∀ b o, s1.heap.get? b = some o → h₁.get? b = some o := fun b o e => hsb.extBut b o (Nat.ne_of_lt (Heap.lt_size e)) (Heap.get?_push_of_some _ e)
    have J : Inv (lamCy X A outer s1 HZ E scope f' c') [] σ HZ { s1 with heap := h₁, toks := s1.toks + ([] : List (Str × Value)).length } := (LamX.lam_start2 I L e0 hro.hd un' hns kp).toTry _
    obtain ⟨cl, hcl⟩ : ∃ cl : Ctx, cl = { cc with G := (fun _ => none), fx := (fun _ => false) } := ⟨_, rfl⟩
    have k1 : cl.K = X.K := by rw [hcl, hc]; exact hK
    have k2 : cl.mg = X.mg := by rw [hcl, hc]; exact hM
    have k3 : cl.T = c.T := by rw [hcl, hc]
    have k4 : cl.G = (fun _ => none) := by rw [hcl]
    have kT : ∀ {H : Hp}, Tb cc H → Tb cl H := fun {H} h => by rw [hcl]; exact ⟨h.tabs, h.code⟩
    have kT' : ∀ {H : Hp}, Tb cl H → Tb cc H := fun {H} h => by rw [hcl] at h; exact ⟨h.tabs, h.code⟩
    have hFB' : ∀ b o, F1 b = some o → F b = some o := fun b o e => hFB b o (by rw [hc]; exact e)
    have saL : SA cl F HZ σ (onlyD cap 0 τ1) [] := ⟨fin.ex, fin.nt, fun b o e => by
        rw [hcl, hc] at e
        exact hFB' b o e, kT fin.tb, slots_only (c := c) (by rw [k1, hK]) hFB' cap 0 sl0, List.nodup_nil, fun i hi => by
        rw [hcl] at hi
        cases hi⟩
    have B := hbody cl A outer s1 HZ E f' c' k1 k2 k3 k4 (hro.deeper _)
    have tE0 : tE cl fb (fun cls d _ H => E cls d H) σ HZ Q := by
      refine ⟨_, F, [], saL, ?_⟩
      unfold cloOf at hr
      cases e1 : fb (onlyD cap 0 τ1) with
      | bad => rw [e1] at hr; cases hr
      | ex n d τ' =>
        rw [e1] at hr
        have hr : (if d.nk then some (D.tex n d) else none) = some r := hr
        split at hr <;> cases hr
        rename_i hn
        intro cv dx F' H' S' go sa' x
        exact hm cv dx F' H' (Go.less go fun b z => by cases z) ⟨sa'.ex, sa'.nt, kT' sa'.tb⟩ (x.ctx (by rw [k1, hc]; exact hK) (by rw [k2, hc]; exact hM) hn)
      | ok h τ' =>
        rw [e1] at hr
        cases h with
        | slot i => cases hr
        | val d =>
          have hr : (if d.nk then some (D.tok d) else none) = some r := hr
          split at hr <;> cases hr
          rename_i hn
          intro v F' H' A' S' go sa' rr nd
          exact hm v F' H' A' (Go.less go fun b z => List.mem_append_left _ z) ⟨sa'.ex, sa'.nt, kT' sa'.tb⟩ (Rel.ctx (by rw [k1, hc]; exact hK) rr hn) (List.nodup_append.mp nd).1
    refine PySem.W.kla_codeExpr (wpAny_mono ((B.pe (fun cls d _ H => E cls d H) (L2N.takes_of rfl rfl rfl rfl)).run [] _ σ HZ Q J tE0) (fun v s2 hq => ?_) fun e s2 hq => hq)
    obtain ⟨w', H', J', rv, q⟩ := hq
    exact ⟨w', H', J'.os, J'.bare, J'.base, J'.hok, rv, q⟩
  · rw [if_neg hff] at ef
    cases ef
/-- x(lambda: body, e, ..) -/
theorem t_lam {params : Arguments} {body : Expr} {scope : Scope} {fb : Den Hdl} {cap : List Nat} {den : List D → Rt} {f cb P : Addr} {x : Str} {p lpos pos : Pos} {LB : Nat}
    (G : FnY X.prog X.w X.K X.mg X.base c.T (LB + 1) k f den) (hK : c.K = X.K) (hM : c.mg = X.mg) (hr : Room k X.A) (hm : X.mg x = some (.ref f)) (hk : PySem.W.keepIn X.K (.ref f) = true)
    (TB : LamX.TabB X.base X.mg cb P) (hcode : X.env.code = .ref cb) (hmT : (P, X.env.qual ++ "<lambda>") ∈ c.T) (hu : ∀ p ∈ c.T, p.1 = P → p.2 = X.env.qual ++ "<lambda>") (L : LamX.LamS X.env.scope scope) (hdef : defaultsOf params X.env = ([], []))
    (hbind : ∀ (q : Str) (cl : List (Str × Addr)) (pm cv ctv : Value), bindArgs (PySem.W.kla_fn "<lambda>" q params body scope cl pm cv ctv) ⟨[], []⟩ = pure [])
    (hbody : ∀ (cl : Ctx) (A : Around) (outer : List Env) (s : Shared) (H : Hp) (E : XK) (f c' : Addr), cl.K = X.K → cl.mg = X.mg → cl.T = c.T → cl.G = (fun _ => none) → Room LB (A.deeper (LamX.lamEnv X scope s.heap.objs.size f c')) → Tr (lamCy X A outer s H E scope f c') cl body fb)
    (ha : TrA X c es g) (hg : Gl X x := by rfl) (hdb : (x == ("__debug__" : Str)) = false := by decide) (he : starEach (.Lambda params body scope lpos :: es) X.env = (false, eval (.Lambda params body scope lpos) X.env) :: starEach es X.env := by rfl)
    (hpl : (backTo pos (starEach es X.env)).any (·.1) = false := by rfl) : Tr X c (.Call (.Name x p) (.Lambda params body scope lpos :: es) [] pos) (lamD den fb cap g) := by
  refine ⟨fun W tk => ⟨fun pins s σ H Q I h => ?_⟩⟩
  obtain ⟨τ, F, S, sa, h⟩ := h
  unfold lamD at h
  cases e1 : frzAll cap τ with
  | none => rw [e1] at h; exact h.elim
  | some τ1 =>
    rw [e1] at h
    obtain ⟨F1, S1, g1, sa1⟩ := sa.frzAll e1
    dsimp only at h
    cases e2 : cloOf fb cap τ1 with
    | none => rw [e2] at h; exact h.elim
    | some r =>
      rw [e2] at h
      dsimp only at h
      refine wpAny_Call_Name_kw (ld_glob I hg hm ?_ hdb)
      refine PySem.W.callWith_K (h₀ := X.base) I.ok.mod.kin hk ?_ he hpl
      rw [he]
      show wpAny _ _ (spliced ((false, eval (.Lambda params body scope lpos) X.env) :: backTo pos (starEach es X.env))) _ _ s
      refine Calls.spliced_cons (LamX.lam_make2 I TB hcode hmT hu sa1.tb.tabs hdef (L.has I.ok) fun f' c' pm' ctv H1 s' I1 eN T1 hf hfn hfr hco => ?_)
      -- the state behind the making
      have go1 : Go F1 H S1 F1 H1 S1 := ⟨fun _ _ h => h, fun b o e ht _ => eN b o e ht, fun b hb => .inl hb, fun b o h => .inl h⟩
      have nF : ∀ b o, F1 b = some o → ∀ ps, o ≠ .tbl ps := fun b o e ps z => by
        subst z
        exact sa1.nt b ps e
      have cne : ∀ {b : Addr} {q : Str} (ps : Array Value), LamX.CodeO b q ≠ .tbl ps := fun {b q} ps z => LamX.codeO_ne ps z
      have sa2 : SA c F1 H1 σ τ1 S1 := ⟨fun b o e => eN b o (sa1.ex b o e) (nF b o e), sa1.nt, sa1.fb, ⟨T1, fun p hp => eN _ _ (sa1.tb.code p hp) (cne)⟩, Slots.mono (fun _ _ h => h) sa1.sl fun b hb => by
        obtain ⟨h1, o, h2, h3⟩ := sa1.owned b hb
        exact ⟨(eN b o h2 h3).trans h2.symm, h1⟩, sa1.nd, sa1.fx⟩
      obtain ⟨cc, hc⟩ : ∃ cc : Ctx, cc = { c with G := fun a => if a = f' then some r else none, FB := F1, CB := (c', X.env.qual ++ "<lambda>") :: c.CB } := ⟨_, rfl⟩
      have h2 := Post.step (A := []) (Go.trans0 g1 go1) h
      have nc : c' ∉ S1 := fun z => Slots.noExt sa2.sl c' z _ hco
      have arg : tA c g W σ H1 fun vs H2 => H2 c' = some (LamX.CodeO c' (X.env.qual ++ "<lambda>")) ∧ spY cc den (.ref f' :: vs) H2 Q (fun cv dx H' => W cv dx σ H') := by
        refine ⟨τ1, F1, S1, sa2, ?_⟩
        cases e3 : g τ1 with
        | bad => rw [e3] at h2; exact h2
        | ex n d τ' => rw [e3] at h2; exact h2
        | ok hs τ2 =>
          rw [e3] at h2
          intro vs F2 H2 A2 S2 g2 sa3 r3 nd3
          dsimp only [Rz.bind] at h2
          by_cases ok : (okA τ2 hs && D.nks (hs.map (Hdl.get τ2))) = true
          · rw [if_pos ok] at h2
            rw [Bool.and_eq_true] at ok
            obtain ⟨ok, onk⟩ := ok
            obtain ⟨A3, S3, q1, sa4, nd4, hm4⟩ := lend_sound ok r3 sa3 nd3
            have n4 := List.nodup_append.mp nd4
            have kK : cc.K = c.K := by rw [hc]
            have kM : cc.mg = c.mg := by rw [hc]
            have ff : ∀ b o, F1 b = some o → F2 b = some o := g2.f
            have tb2 : Tb cc H2 := by
              rw [hc]
              refine ⟨sa4.tb.tabs, fun p hp => ?_⟩
              rcases List.mem_cons.mp hp with rfl | hp
              · exact g2.h _ _ hco cne nc
              · exact sa4.tb.code p hp
            have conv : ∀ {F' H' : Hp}, Fin' cc F' H' → Fin' c F' H' := fun {F' H'} fin => ⟨fin.ex, fin.nt, by
              have t := fin.tb
              rw [hc] at t
              exact ⟨t.tabs, fun p hp => t.code p (List.mem_cons_of_mem _ hp)⟩⟩
            have rcc : Rels cc F2 H2 (r :: hs.map (Hdl.get τ2)) (.ref f' :: vs) A3 := ⟨.ref f', vs, [], A3, rfl, rfl, by
              unfold cloOf at e2
              have hG : cc.G f' = some r := by rw [hc]; exact if_pos rfl
              cases e4 : fb (onlyD cap 0 τ1) with
              | bad => rw [e4] at e2; cases e2
              | ex n d _ =>
                rw [e4] at e2
                have e2 : (if d.nk then some (D.tex n d) else none) = some r := e2
                split at e2 <;> cases e2
                exact ⟨f', rfl, hG, rfl⟩
              | ok h _ =>
                rw [e4] at e2
                cases h with
                | slot _ => cases e2
                | val d =>
                  have e2 : (if d.nk then some (D.tok d) else none) = some r := e2
                  split at e2 <;> cases e2
                  exact ⟨f', rfl, hG, rfl⟩, Rels.ctx kK q1 onk⟩
            refine ⟨g2.h _ _ hco cne nc, F2, r :: hs.map (Hdl.get τ2), A3, ⟨sa4.ex, sa4.nt, tb2⟩, fun b o e => ff b o (by rw [hc] at e; exact e), rcc, n4.1, ?_⟩
            cases e5 : den (r :: hs.map (Hdl.get τ2)) with
            | bad => rw [e5] at h2; exact h2.elim
            | ex n d =>
              rw [e5] at h2
              dsimp only at h2
              by_cases hn : d.nk = true
              · rw [if_pos hn] at h2
                intro cv dx F' H' go fin x
                obtain ⟨sa5, _⟩ := sa4.beside go (conv fin) nd4
                exact (show Post c (fun F H => RelH c F H σ) W F1 H1 σ S1 Q (.ex n d (lendD hs τ2)) from h2) cv dx F' H' S3 (Go.trans0 g2 (go.wide (fun b z => hm4 b (List.mem_append_left _ z)) fun b hb => .inr (hm4 b (List.mem_append_right _ hb)))) sa5 (x.ctx kK.symm kM.symm hn)
              · rw [if_neg hn] at h2
                exact h2.elim
            | ok d ps =>
              rw [e5] at h2
              cases ps with
              | nil => exact h2.elim
              | cons p0 ps =>
                dsimp only at h2
                by_cases hn : (d.nk && ps.all nkU) = true
                · rw [if_pos hn] at h2
                  rw [Bool.and_eq_true] at hn
                  intro v F' H' B B' go fin rr sl nd
                  obtain ⟨B0, B1, rfl, _, sl1⟩ := sl
                  obtain ⟨sa5, dis⟩ := sa4.beside go (conv fin) nd4
                  have nb := List.nodup_append.mp nd
                  have nb1 := List.nodup_append.mp nb.2.1
                  obtain ⟨S4, sa6, hm6⟩ := wb_sound (ds := hs.map (Hdl.get τ2)) r3 sa5 (Slots.ctxN kK.symm sl1 hn.2) (List.nodup_append.mpr ⟨nb1.2.1, n4.2.1, fun x hx y hy z => by
                    subst z
                    exact dis x hy (List.mem_append_right _ (List.mem_append_right _ hx))⟩)
                  refine (show Post c (fun F H => RelH c F H σ) W F1 H1 σ S1 Q (.ok (.val d) (wbD hs (hs.map (Hdl.get τ2)) ps (lendD hs τ2))) from h2) v F' H' B S4 (Go.trans0 g2 (go.wide (fun b z => hm4 b (List.mem_append_left _ z)) fun b hb => ?_)) sa6 (Rel.ctx kK.symm rr hn.1) (List.nodup_append.mpr ⟨nb.1, sa6.nd, fun x hx y hy z => ?_⟩)
                  · rcases List.mem_append.mp hb with z | z
                    · exact .inl (List.mem_append_left _ z)
                    · rcases List.mem_append.mp (hm6 b z) with z | z
                      · exact .inl (List.mem_append_right _ (List.mem_append_right _ z))
                      · exact .inr (hm4 b (List.mem_append_right _ z))
                  · subst z
                    rcases List.mem_append.mp (hm6 x hy) with z | z
                    · exact nb.2.2 x hx x (List.mem_append_right _ z) rfl
                    · exact dis x z (List.mem_append_left _ hx)
                · rw [if_neg hn] at h2
                  exact h2.elim
          · rw [if_neg ok] at h2
            exact h2.elim
      have fsub : ∀ b ∈ X.fs, b ∈ frs X.stack := fun b hb => by
        rcases I1.ok.stk with e | ⟨e, hfr⟩
        · rw [e]
          exact hb
        · rw [e]
          unfold frs
          rw [List.filterMap_cons, hfr]
          exact List.mem_cons_of_mem _ hb
      have nloc : f' ≠ X.env.locals := fun z => by
        obtain ⟨m, ⟨o, es', ep, ho, hd, _⟩, _⟩ := I1.loc
        rw [← z, hf] at ho
        cases ho
        cases hd
      have I1' : Inv X ((f', PySem.W.kla_obj "<lambda>" (X.env.qual ++ "<lambda>") params body scope (cloFrom X.env.cells scope.names []) pm' c' ctv) :: pins) σ H1 s' := I1.pins_of fun q hq => by
        rcases List.mem_cons.mp hq with rfl | hq
        · exact ⟨hf, hfn, nloc, fun z => hfr (fsub _ z), fun v z => by cases z⟩
        · exact I1.pin q (List.mem_append_right _ hq)
      refine wpAny_mono ((ha.pa W tk).run pos _ s' σ H1 _ I1' arg) (fun us s2 hq => ?_) fun _ _ z => z
      obtain ⟨vs, H2, I2', r2, hco2, q2⟩ := hq
      have I2 : Inv X pins σ H2 s2 := I2'.pins_of fun q hq => I2'.pin q (List.mem_append_right _ (List.mem_cons_of_mem _ hq))
      have pf := I2'.pin (f', _) (List.mem_append_right _ List.mem_cons_self)
      refine ⟨I2.kIn, ?_⟩
      have CG2 : CloG X.prog X.w X.K X.mg X.base cc (LB + 1) X.stack s2 H2 := clo_made (cap := cap) (fb := fb) hK hM L hbind hbody I2 sa2.sl e2 pf.1 pf.2.1 hco2 hc
      show wpAny _ _ (call (.ref f) (.ref f' :: us)) _ _ _
      refine wpAny_call (codeAny_mono (G.run cc X.A X.stack s2 H2 (.ref f' :: us) (.ref f' :: vs) Q (fun cv dx H' => W cv dx σ H') (by rw [hc]; exact hK) (by rw [hc]; exact hM) (by rw [hc]) hr I2.env0 CG2 (.cons rfl r2) q2) fun r s3 hq => ?_)
      cases r with
      | error e => exact L2N.passAt tk σ pins H2 s2 e s3 I2 hq
      | ok fl =>
        cases fl with
        | ret u => exact I2.after hq
        | next => exact False.elim hq
        | brk => exact False.elim hq
        | cont => exact False.elim hq
end
end Y
end

section
set_option Elab.async false
set_option linter.all false
set_option maxRecDepth 100000
set_option maxHeartbeats 4000000
/-! Y11: lists and dicts of slots are written. -/
namespace Y
open PySem PySem.Spec PyProof.Rows L2

/-- what a write may change: neither a table nor a code object -/
def Wr : HO → Bool
  | .lst _ => true
  | .dK _ => true
  | _ => false
section
variable {c : Ctx} {F H F1 H1 F2 H2 : Hp} {σ : L2.St} {τ τ1 : List D} {S S1 A B : List Addr} {W : WX} {E : Ends}
theorem tb_upd (t : Tb c H) {p : Addr} {o u : HO} (hp : H p = some o) (ho : Wr o = true) : Tb c (upd H p u) := by
  have ne : ∀ b u', H b = some u' → Wr u' = false → b ≠ p := fun b u' e n z => by
    subst z
    rw [hp] at e
    cases e
    rw [n] at ho
    cases ho
  refine ⟨fun q hq => ?_, fun q hq => ?_⟩
  · obtain ⟨ps, h1, h2, h3⟩ := t.tabs q hq
    refine ⟨ps, by rw [upd_ne (ne _ _ h1 rfl)]; exact h1, h2, fun pos cv hc => ?_⟩
    obtain ⟨c', e1, e2⟩ := h3 pos cv hc
    exact ⟨c', e1, by rw [upd_ne (ne _ _ e2 rfl)]; exact e2⟩
  · have e := t.code q hq
    rw [upd_ne (ne _ _ e rfl)]
    exact e
theorem SA.upd (sa : SA c F H σ τ S) {p : Addr} {o u : HO} (hp : H p = some o) (ho : Wr o = true) (hf : F p = none) (hs : p ∉ S) : SA c F (upd H p u) σ τ S := by
  refine ⟨fun b o e => ?_, sa.nt, sa.fb, tb_upd sa.tb hp ho, Slots.mono (fun _ _ h => h) sa.sl fun b hb => ⟨upd_ne fun z => hs (z ▸ hb), (sa.owned b hb).1⟩, sa.nd, sa.fx⟩
  rw [upd_ne fun z => by rw [z, hf] at e; cases e]
  exact sa.ex b o e
theorem Rel.upd {d : D} {v : V} (r : Rel c F H d v A) {p : Addr} {u : HO} (hs : p ∉ A) : Rel c F (upd H p u) d v A :=
  Rel.mono (fun _ _ h => h) r fun b hb => ⟨upd_ne fun z => hs (z ▸ hb), (r.owned b hb).1⟩
theorem Rels.upd {d : List D} {v : List V} (r : Rels c F H d v A) {p : Addr} {u : HO} (hs : p ∉ A) : Rels c F (upd H p u) d v A :=
  Rels.mono (fun _ _ h => h) r fun b hb => ⟨upd_ne fun z => hs (z ▸ hb), (r.owned b hb).1⟩
theorem go_upd {p : Addr} {u : HO} (hs : p ∈ S) (h : ∀ b ∈ S1, b ∈ S) : Go F H S F (L2.upd H p u) S1 :=
  ⟨fun _ _ h => h, fun b o e _ nb => by rw [upd_ne (fun z => nb (by rw [z]; exact hs))]; exact e, fun b hb => .inl (h b hb), fun b o e => .inl e⟩
/-- the list of a slot in hand -/
theorem SA.own (sa : SA c F H σ τ S) {i : Nat} {xs : List D} (hi : τ[i]? = some (.lst true xs)) :
    ∃ p vs B S0, σ[i]? = some (some (.ref p)) ∧ H p = some (.lst vs) ∧ F p = none ∧ Rels c F H xs vs B ∧ SA c F H σ (τ.set i .un) S0 ∧ (p :: B ++ S0).Nodup ∧ ∀ b, b ∈ p :: B ++ S0 ↔ b ∈ S := by
  obtain ⟨v, A, S0, e1, r, sa', nd, hm⟩ := sa.take hi (by simp)
  obtain ⟨p, vs, B, rfl, h1, h2, rfl, r⟩ := r
  exact ⟨p, vs, B, S0, e1, h1, h2, r, sa', nd, hm⟩
/-- a slot's list is rewritten: ws stands in it now; B' are the owned things in it -/
theorem SA.rewrite {S0 : List Addr} {i : Nat} (sa : SA c F H σ (τ.set i .un) S0) {p : Addr} {vs ws : List V} {B' : List Addr} {ys : List D} (e1 : σ[i]? = some (some (.ref p))) (hp : H p = some (.lst vs)) (hf : F p = none)
    (r : Rels c F H ys ws B') (nd : (p :: B' ++ S0).Nodup) : ∃ S', SA c F (L2.upd H p (.lst ws)) σ (τ.set i (.lst true ys)) S' ∧ ∀ b ∈ S', b ∈ p :: B' ++ S0 := by
  have n1 := List.nodup_append.mp nd
  have n2 := List.nodup_cons.mp n1.1
  have ps : p ∉ S0 := fun z => n1.2.2 p List.mem_cons_self p z rfl
  have sa2 := sa.upd (u := .lst ws) hp rfl hf ps
  have r2 : Rel c F (L2.upd H p (.lst ws)) (.lst true ys) (.ref p) (p :: B') := ⟨p, ws, B', rfl, upd_same, hf, rfl, r.upd n2.1⟩
  obtain ⟨S', sa3, hm⟩ := sa2.reput (slotR_mk r2) nd e1
  rw [List.set_set] at sa3
  exact ⟨S', sa3, hm⟩
theorem rels_set {xs : List D} {vs : List V} {d : D} {v : V} {A B : List Addr} (r : Rels c F H xs vs B) (r1 : Rel c F H d v A) (j : Nat) (nd : (A ++ B).Nodup) :
    ∃ B', Rels c F H (xs.set j d) (vs.set j v) B' ∧ B'.Nodup ∧ ∀ b ∈ B', b ∈ A ++ B := by
  by_cases hj : j < xs.length
  · have ex : xs = xs.take j ++ (xs[j] :: xs.drop (j + 1)) := by simp
    rw [ex] at r
    obtain ⟨ws, us, B1, B2, rfl, rfl, q1, q2⟩ := r.split
    obtain ⟨v0, us, A0, B3, rfl, rfl, q3, q4⟩ := q2
    have l1 : ws.length = j := by
      rw [q1.length, List.length_take]
      omega
    have n1 := List.nodup_append.mp nd
    have n2 := List.nodup_append.mp n1.2.1
    have n3 := List.nodup_append.mp n2.2.1
    refine ⟨B1 ++ (A ++ B3), ?_, ?_, fun b hb => ?_⟩
    · have e1 : xs.set j d = xs.take j ++ d :: xs.drop (j + 1) := by
        rw [List.set_eq_take_append_cons_drop]
        simp [hj]
      have e2 : (ws ++ v0 :: us).set j v = ws ++ v :: us := by
        rw [List.set_append_right _ _ (by omega), l1, Nat.sub_self, List.set_cons_zero]
      rw [e1, e2]
      exact q1.append (.cons r1 q4)
    · refine List.nodup_append.mpr ⟨n2.1, List.nodup_append.mpr ⟨n1.1, n3.2.1, fun x hx y hy => n1.2.2 x hx y (List.mem_append_right _ (List.mem_append_right _ hy))⟩, fun x hx y hy z => ?_⟩
      subst z
      rcases List.mem_append.mp hy with hy | hy
      · exact n1.2.2 x hy x (List.mem_append_left _ hx) rfl
      · exact n2.2.2 x hx x (List.mem_append_right _ hy) rfl
    · rcases List.mem_append.mp hb with y | y
      · exact List.mem_append_right _ (List.mem_append_left _ y)
      · rcases List.mem_append.mp y with y | y
        · exact List.mem_append_left _ y
        · exact List.mem_append_right _ (List.mem_append_right _ (List.mem_append_right _ y))
  · have l := r.length
    rw [List.set_eq_of_length_le (by omega), List.set_eq_of_length_le (by omega)]
    exact ⟨B, r, (List.nodup_append.mp nd).2.1, fun b hb => List.mem_append_right _ hb⟩
end
section
variable {X : Cx} {c : Ctx} {a b e : Expr} {rest es : List Expr} {f f1 f2 f3 : Den Hdl} {g : Den (List Hdl)} {pos : Pos} {st : Stmt} {sts sts2 : List Stmt} {p q : SDen}
/-- x[e1] = e, x an own list -/
def putAt (i : Nat) (k d : D) (τ : List D) : Option (List D) := match k, τ[i]? with
  | .int k, some (.lst true xs) => (ixN xs.length k).map fun j => τ.set i (.lst true (xs.set j d))
  | _, _ => none
def sSto (i : Nat) (fi f : Den Hdl) : SDen := fun τ => onE (f τ) fun h τ1 => match h, τ1[i]? with
  | .val d, some (.lst true _) => onE (fi τ1) fun h2 τ2 => match putAt i (h2.get τ2) d τ2 with
    | some τ3 => .nx τ3
    | none => .bad
  | _, _ => .bad
theorem s_sto {i : Nat} {x : Str} {ei : Expr} {px ps : Pos} (hN : X.N[i]? = some x) (he : Tr X c e f) (hi : Tr X c ei f1)
    (hv : Vis X.env.scope x := by first | exact Or.inl rfl | exact Or.inr (Or.inl rfl) | exact Or.inr (Or.inr rfl)) (hd : (x == ("__debug__" : Str)) = false := by decide) (hcd : (x == ("__classdict__" : Str)) = false := by decide)
    (ha : ∀ v, assign (.Subscript (.Name x px) ei ps) X.env v = (do
      let ov ← holding [v] (eval (.Name x px) X.env)
      let iv ← holding [v, ov] (eval ei X.env)
      standAt ps
      holding [v, ov, iv] (setItem ov iv v)
      release [v, ov, iv] []) := by intro _; rfl)
    (hs : swapsWithSole [.Subscript (.Name x px) ei ps] e pos.line X.env = pure false := by rfl) (hw : swappedStores [.Subscript (.Name x px) ei ps] e X.env = pure none := by rfl)
    (h1 : (assignEach [.Subscript (.Name x px) ei ps] X.env).map (·.2) = [assign (.Subscript (.Name x px) ei ps) X.env] := by rfl) : Ts X c (.Assign [.Subscript (.Name x px) ei ps] e pos) (sSto i f1 f) := by
  refine ⟨fun W tk => ps_mono (ps_asg (he.pe W tk) (pg_sub (pe_var hN hv hd hcd) (hi.pe W tk) set_list ha) hs hw h1) fun E σ H h => ?_⟩
  refine onE_sound h fun {h τ1 v F1 H1 A S1} sa r nd q => ?_
  cases h with
  | slot j => exact q.elim
  | val d =>
    cases hi1 : τ1[i]? with
    | none => rw [hi1] at q; exact q.elim
    | some d1 =>
      rw [hi1] at q
      cases d1 <;> first | (exact q.elim; done) | skip
      rename_i o1 xs1
      cases o1 <;> first | (exact q.elim; done) | skip
      obtain ⟨p0, vs0, B0, S00, e0, _, _, _, _, _, _⟩ := sa.own hi1
      have q : PostS c W E F1 H1 (A ++ S1) (onE (f1 τ1) fun h2 τ2 => match putAt i (h2.get τ2) d τ2 with
        | some τ3 => .nx τ3
        | none => .bad) := q
      refine ⟨.ref p0, e0, τ1, F1, S1, sa, ?_⟩
      cases e2 : f1 τ1 with
      | bad => rw [e2] at q; exact q
      | ex n d' τ2 =>
        rw [e2] at q
        intro cv dx F' H' S' go sa' x
        exact (show PostS c W E F1 H1 (A ++ S1) (.ex n d' τ2) from q) cv dx σ F' H' S' (go.wide (fun b hb => List.mem_append_right _ hb) fun b hb => .inl hb) sa' x
      | ok h2 τ2 =>
        rw [e2] at q
        intro v2 F2 H2 A2 S2 g2 sa2 r2 nd2
        have q : PostS c W E F1 H1 (A ++ S1) (match putAt i (h2.get τ2) d τ2 with
          | some τ3 => .nx τ3
          | none => .bad) := q
        cases e3 : putAt i (h2.get τ2) d τ2 with
        | none => rw [e3] at q; exact q.elim
        | some τ3 =>
          rw [e3] at q
          unfold putAt at e3
          cases ek : h2.get τ2 <;> rw [ek] at e3 <;> first | (cases e3; done) | skip
          rename_i k
          cases hi2 : τ2[i]? with
          | none => rw [hi2] at e3; cases e3
          | some d2 =>
            rw [hi2] at e3
            cases d2 <;> first | (cases e3; done) | skip
            rename_i o2 xs
            cases o2 <;> first | (cases e3; done) | skip
            have e3 : (ixN xs.length k).map (fun j => τ2.set i (.lst true (xs.set j d))) = some τ3 := e3
            cases hx : ixN xs.length k with
            | none => rw [hx] at e3; cases e3
            | some j =>
              rw [hx] at e3
              cases e3
              obtain ⟨p, vs, B, S0, e1, hp, hf, rr, sa3, nd3, hm⟩ := sa2.own hi2
              rw [e0] at e1
              cases e1
              have ev : v2 = .int k := by
                rcases r2.get sa2 with z | ⟨B, z⟩
                · rw [ek] at z; cases z
                · rw [ek] at z
                  exact z.1
              subst ev
              refine ⟨p0, vs, k, j, rfl, rfl, hp, by rw [rr.length]; exact hx, ?_⟩
              have n2 := List.nodup_append.mp nd2
              have r' := r.hand g2 nd
              have ndA := nodup_hand g2 r.owned nd nd2
              have nA := List.nodup_append.mp ndA
              have dA : ∀ b ∈ A, b ∉ S2 := fun b hb z => nA.2.2 b hb b (List.mem_append_right _ z) rfl
              have n3 := List.nodup_append.mp nd3
              have n4 := List.nodup_cons.mp n3.1
              obtain ⟨B', rs, nB, mB⟩ := rels_set rr r' j (List.nodup_append.mpr ⟨nA.1, n4.2, fun x hx y hy z => by
                subst z
                exact dA x hx ((hm x).mp (List.mem_append_left _ (List.mem_cons_of_mem _ hy)))⟩)
              have ndN : (p0 :: B' ++ S0).Nodup := by
                refine List.nodup_append.mpr ⟨List.nodup_cons.mpr ⟨fun z => ?_, nB⟩, n3.2.1, fun x hx y hy z => ?_⟩
                · rcases List.mem_append.mp (mB p0 z) with z | z
                  · exact dA p0 z ((hm p0).mp (List.mem_append_left _ List.mem_cons_self))
                  · exact n4.1 z
                · subst z
                  rcases List.mem_cons.mp hx with rfl | hx
                  · exact n3.2.2 x List.mem_cons_self x hy rfl
                  · rcases List.mem_append.mp (mB x hx) with z | z
                    · exact dA x z ((hm x).mp (List.mem_append_right _ hy))
                    · exact n3.2.2 x (List.mem_cons_of_mem _ z) x hy rfl
              obtain ⟨S', sa4, hm4⟩ := SA.rewrite (τ := τ2) (ws := vs.set j v) sa3 e0 hp hf rs ndN
              refine (show PostS c W E F1 H1 (A ++ S1) (.nx (τ2.set i (.lst true (xs.set j d)))) from q) σ F2 _ S' ?_ sa4
              have hp0 : p0 ∈ S2 := (hm p0).mp (List.mem_append_left _ List.mem_cons_self)
              have g3 : Go F1 H1 (A ++ S1) F2 H2 (A ++ S2) := g2.wide (fun b hb => List.mem_append_right _ hb) fun b hb => by
                rcases List.mem_append.mp hb with z | z
                · exact .inr (List.mem_append_left _ z)
                · exact .inl (List.mem_append_right _ z)
              refine Go.trans0 g3 (go_upd (List.mem_append_right _ hp0) fun b hb => ?_)
              rcases List.mem_append.mp (hm4 b hb) with z | z
              · rcases List.mem_cons.mp z with rfl | z
                · exact List.mem_append_right _ hp0
                · rcases List.mem_append.mp (mB b z) with z | z
                  · exact List.mem_append_left _ z
                  · exact List.mem_append_right _ ((hm b).mp (List.mem_append_left _ (List.mem_cons_of_mem _ z)))
              · exact List.mem_append_right _ ((hm b).mp (List.mem_append_right _ z))
end

/-! ### methods of an own list -/
/-- what a method does with the list, its arguments in hand -/
structure MtO (c : Ctx) (r : V → List V → Hp → VK → Prop) (op : List D → List D → Option (D × List D)) : Prop where
  run : ∀ {F H : Hp} {p : Addr} {vs us : List V} {xs as ys : List D} {A B : List Addr} {d : D}, (∀ b o, F b = some o → H b = some o) → H p = some (.lst vs) → F p = none → Rels c F H xs vs B → Rels c F H as us A → (A ++ p :: B).Nodup → op xs as = some (d, ys) →
    ∃ w ws Bd B', (∀ Q : VK, Q w (upd H p (.lst ws)) → r (.ref p) us H Q) ∧ Rel c F H d w Bd ∧ Rels c F H ys ws B' ∧ (Bd ++ B').Nodup ∧ ∀ b ∈ Bd ++ B', b ∈ A ++ B
def appL : List D → List D → Option (D × List D) := fun xs as => match as with
  | [d] => if xs.length < 100000 then some (.non, xs ++ [d]) else none
  | _ => none
def extL : List D → List D → Option (D × List D) := fun xs as => match as with
  | [.lst _ zs] => if xs.length + zs.length ≤ 100000 then some (.non, xs ++ zs) else none
  | _ => none
def popL : List D → List D → Option (D × List D) := fun xs as => match as with
  | [] => xs.getLast?.map fun d => (d, xs.dropLast)
  | _ => none
def runL (op : List D → List D → Option (D × List D)) (i : Nat) (as : List D) (τ : List D) : Rz Hdl := match τ[i]? with
  | some (.lst true xs) => match op xs as with
    | some (d, ys) => .ok (.val d) (τ.set i (.lst true ys))
    | none => .bad
  | _ => .bad
def mtD (op : List D → List D → Option (D × List D)) (i : Nat) (g : Den (List Hdl)) : Den Hdl := fun τ => match τ[i]? with
  | some (.lst true _) => (g τ).bind fun hs τ1 => match valsOf hs with
    | some as => runL op i as τ1
    | none => .bad
  | _ => .bad
section
variable {X : Cx} {c : Ctx} {a b e : Expr} {rest es : List Expr} {f f1 f2 f3 : Den Hdl} {g : Den (List Hdl)} {pos : Pos} {F H F1 H1 : Hp} {σ : L2.St} {τ τ1 : List D} {S S1 A : List Addr} {W : WX}
/-- the method runs -/
theorem run_core {op : List D → List D → Option (D × List D)} {r : V → List V → Hp → VK → Prop} {i : Nat} {as : List D} {us : List V} {Q : VK} (hm : MtO c r op) (sa : SA c F H σ τ S) (ra : Rels c F H as us A) (nd : (A ++ S).Nodup) {p : Addr} (e0 : σ[i]? = some (some (.ref p)))
    (h : Post c (fun F H => RelH c F H σ) W F H σ (A ++ S) Q (runL op i as τ)) : r (.ref p) us H Q := by
  unfold runL at h
  cases hi : τ[i]? with
  | none => rw [hi] at h; exact h.elim
  | some d2 =>
    rw [hi] at h
    cases d2 <;> first | (exact h.elim; done) | skip
    rename_i o2 xs
    cases o2 <;> first | (exact h.elim; done) | skip
    cases eo : op xs as with
    | none => dsimp only at h; rw [eo] at h; exact h.elim
    | some dy =>
      obtain ⟨d, ys⟩ := dy
      dsimp only at h
      rw [eo] at h
      obtain ⟨p', vs, B, S0, e1, hp, hf, rr, sa3, nd3, hm3⟩ := sa.own hi
      rw [e0] at e1
      cases e1
      have n1 := List.nodup_append.mp nd
      have n3 := List.nodup_append.mp nd3
      obtain ⟨w, ws, Bd, B', hr, rd, ry, ndb, mb⟩ := hm.run sa.ex hp hf rr ra (List.nodup_append.mpr ⟨n1.1, n3.1, fun x hx y hy => n1.2.2 x hx y ((hm3 y).mp (List.mem_append_left _ hy))⟩) eo
      refine hr Q ?_
      have n4 := List.nodup_cons.mp n3.1
      have hpA : p ∉ A := fun z => n1.2.2 p z p ((hm3 p).mp (List.mem_append_left _ List.mem_cons_self)) rfl
      have pn : p ∉ Bd ++ B' := fun z => by
        rcases List.mem_append.mp (mb p z) with z | z
        · exact hpA z
        · exact n4.1 z
      have nb := List.nodup_append.mp ndb
      have off : ∀ x ∈ Bd ++ B', x ∉ S0 := fun x hx hy => by
        rcases List.mem_append.mp (mb x hx) with z | z
        · exact n1.2.2 x z x ((hm3 x).mp (List.mem_append_right _ hy)) rfl
        · exact n3.2.2 x (List.mem_cons_of_mem _ z) x hy rfl
      obtain ⟨S', sa4, hm4⟩ := SA.rewrite (τ := τ) (ws := ws) sa3 e0 hp hf ry (List.nodup_append.mpr ⟨List.nodup_cons.mpr ⟨fun z => pn (List.mem_append_right _ z), nb.2.1⟩, n3.2.1, fun x hx y hy z => by
        subst z
        rcases List.mem_cons.mp hx with rfl | hx
        · exact n3.2.2 x List.mem_cons_self x hy rfl
        · exact off x (List.mem_append_right _ hx) hy⟩)
      have hp0 : p ∈ S := (hm3 p).mp (List.mem_append_left _ List.mem_cons_self)
      have inS : ∀ x ∈ Bd ++ B', x ∈ A ++ S := fun x hx => by
        rcases List.mem_append.mp (mb x hx) with z | z
        · exact List.mem_append_left _ z
        · exact List.mem_append_right _ ((hm3 x).mp (List.mem_append_left _ (List.mem_cons_of_mem _ z)))
      refine (show Post c (fun F H => RelH c F H σ) W F H σ (A ++ S) Q (.ok (.val d) (τ.set i (.lst true ys))) from h) w F _ Bd S' (go_upd (List.mem_append_right _ hp0) fun b hb => ?_) sa4 (rd.upd fun z => pn (List.mem_append_left _ z)) (List.nodup_append.mpr ⟨nb.1, sa4.nd, fun x hx y hy z => ?_⟩)
      · rcases List.mem_append.mp hb with z | z
        · exact inS b (List.mem_append_left _ z)
        · rcases List.mem_append.mp (hm4 b z) with z | z
          · rcases List.mem_cons.mp z with rfl | z
            · exact List.mem_append_right _ hp0
            · exact inS b (List.mem_append_right _ z)
          · exact List.mem_append_right _ ((hm3 b).mp (List.mem_append_right _ z))
      · subst z
        rcases List.mem_append.mp (hm4 x hy) with z | z
        · rcases List.mem_cons.mp z with rfl | z
          · exact pn (List.mem_append_left _ hx)
          · exact nb.2.2 x hx x z rfl
        · exact off x (List.mem_append_left _ hx) z
theorem app_ok : MtO c rAppend appL := by
  refine ⟨fun {F H p vs us xs as ys A B d} ex hp hf r ra nd e => ?_⟩
  unfold appL at e
  split at e <;> first | (cases e; done) | skip
  rename_i d0
  split at e <;> first | (cases e; done) | skip
  rename_i hl
  cases e
  obtain ⟨v, ws, C1, C2, rfl, rfl, r1, r2⟩ := ra
  obtain ⟨rfl, rfl⟩ := r2
  rw [List.append_nil] at nd ⊢
  have n1 := List.nodup_append.mp nd
  have n2 := List.nodup_cons.mp n1.2.1
  refine ⟨.non, vs ++ [v], [], B ++ C1, fun Q q => ⟨p, vs, v, rfl, rfl, hp, ?_, q⟩, ⟨rfl, rfl⟩, r.append ?_, ?_, fun b hb => ?_⟩
  · rw [r.length]
    exact Nat.lt_of_lt_of_le hl (by decide)
  · have q := Rels.cons r1 (Rels.nil (c := c) (F := F) (H := H))
    rw [List.append_nil] at q
    exact q
  · rw [List.nil_append]
    exact List.nodup_append.mpr ⟨n2.2, n1.1, fun x hx y hy z => n1.2.2 y hy x (List.mem_cons_of_mem _ hx) z.symm⟩
  · rw [List.nil_append] at hb
    rcases List.mem_append.mp hb with z | z
    · exact List.mem_append_right _ z
    · exact List.mem_append_left _ z
theorem ext_ok : MtO c rExtend extL := by
  refine ⟨fun {F H p vs us xs as ys A B d} ex hp hf r ra nd e => ?_⟩
  unfold extL at e
  split at e <;> first | (cases e; done) | skip
  rename_i o zs
  split at e <;> first | (cases e; done) | skip
  rename_i hl
  cases e
  obtain ⟨v, ws, C1, C2, rfl, rfl, r1, r2⟩ := ra
  obtain ⟨rfl, rfl⟩ := r2
  rw [List.append_nil] at nd
  have n1 := List.nodup_append.mp nd
  have n2 := List.nodup_cons.mp n1.2.1
  have key : ∃ b ws B2, v = .ref b ∧ H b = some (.lst ws) ∧ Rels c F H zs ws B2 ∧ B2.Nodup ∧ ∀ x ∈ B2, x ∈ C1 := by
    cases o with
    | true =>
      obtain ⟨b, ws, B2, rfl, h1, h2, rfl, r3⟩ := r1
      exact ⟨b, ws, B2, rfl, h1, r3, (List.nodup_cons.mp n1.1).2, fun x hx => List.mem_cons_of_mem _ hx⟩
    | false =>
      obtain ⟨b, ws, rfl, h1, rfl, r3⟩ := r1
      exact ⟨b, ws, [], rfl, ex _ _ h1, r3, List.nodup_nil, fun x hx => hx⟩
  obtain ⟨b, ws, B2, rfl, hb, r3, nB2, mB2⟩ := key
  refine ⟨.non, vs ++ ws, [], B ++ B2, fun Q q => ⟨p, b, vs, ws, rfl, rfl, hp, hb, ?_, q⟩, ⟨rfl, rfl⟩, r.append r3, ?_, fun x hx => ?_⟩
  case refine_2 => rw [List.nil_append]; exact List.nodup_append.mpr ⟨n2.2, nB2, fun x hx y hy z => n1.2.2 y (mB2 y hy) x (List.mem_cons_of_mem _ hx) z.symm⟩
  · rw [r.length, r3.length]
    exact Nat.le_trans hl (by decide)
  · rw [List.append_nil]
    rw [List.nil_append] at hx
    rcases List.mem_append.mp hx with z | z
    · exact List.mem_append_right _ z
    · exact List.mem_append_left _ (mB2 x z)
theorem pop_ok : MtO c rPop popL := by
  refine ⟨fun {F H p vs us xs as ys A B d} ex hp hf r ra nd e => ?_⟩
  unfold popL at e
  split at e <;> first | (cases e; done) | skip
  obtain ⟨rfl, rfl⟩ := ra
  cases e1 : xs.getLast? with
  | none => rw [e1] at e; cases e
  | some d0 =>
    rw [e1] at e
    cases e
    have hne : xs ≠ [] := fun z => by rw [z] at e1; cases e1
    have ex2 : xs = xs.dropLast ++ [d] := by
      have q := List.dropLast_concat_getLast hne
      rw [List.getLast?_eq_some_getLast hne] at e1
      cases e1
      exact q.symm
    rw [ex2] at r
    obtain ⟨ws, us, B1, B2, rfl, rfl, q1, q2⟩ := r.split
    obtain ⟨v, us, C1, C2, rfl, rfl, q3, q4⟩ := q2
    obtain ⟨rfl, rfl⟩ := q4
    rw [List.append_nil] at nd ⊢
    have n2 := List.nodup_cons.mp (show (p :: (B1 ++ C1)).Nodup from nd)
    have n3 := List.nodup_append.mp n2.2
    refine ⟨v, ws, C1, B1, fun Q q => ⟨p, ws ++ [v], v, rfl, rfl, hp, by simp, by simpa using q⟩, q3, q1, ?_, fun b hb => ?_⟩
    · exact List.nodup_append.mpr ⟨n3.2.1, n3.1, fun x hx y hy z => n3.2.2 y hy x hx z.symm⟩
    · rw [List.nil_append]
      rcases List.mem_append.mp hb with z | z
      · exact List.mem_append_right _ z
      · exact List.mem_append_left _ z
theorem t_mt {op : List D → List D → Option (D × List D)} {r : V → List V → Hp → VK → Prop} {i : Nat} {x name : Str} {id : String} {px apos cpos : Pos} (ho : MtO c r op) (slot : Slot "list" name id) (hty : typeOf (.builtin id) = pure (.type "method_descriptor")) (hm : MtR X id r)
    (hN : X.N[i]? = some x) (ha : TrA X c (e :: es) g)
    (hv : Vis X.env.scope x := by first | exact Or.inl rfl | exact Or.inr (Or.inl rfl) | exact Or.inr (Or.inr rfl)) (hd : (x == ("__debug__" : Str)) = false := by decide) (hcd : (x == ("__classdict__" : Str)) = false := by decide)
    (hbase : attributeBase (.Name x px) name X.env (eval (.Name x px) X.env) = eval (.Name x px) X.env := by rfl)
    (hfew : ((backTo cpos (starEach (e :: es) X.env)).all (fun x => !x.1) && (backToKw cpos (keywordEach [] X.env)).all (fun x => x.1.isSome)
      && decide ((e :: es).length + ([] : List Keyword).length + (if ([] : List Keyword).isEmpty then 0 else 1) < 30)) = true := by rfl)
    (hline : (apos.endLine == cpos.line) = true := by rfl) (hs : starEach (e :: es) X.env = (false, eval e X.env) :: starEach es X.env := by rfl) (hplain : (backTo cpos (starEach es X.env)).any (·.1) = false := by rfl) :
    Tr X c (.Call (.Attribute (.Name x px) name apos) (e :: es) [] cpos) (mtD op i g) := by
  refine ⟨fun W tk => pe_mono (pe_bm PySem.F.plainAttrs_list slot hty hm (pe_var hN hv hd hcd) (ha.pa W tk) hbase hfew hline hs hplain) fun σ H Q h => ?_⟩
  obtain ⟨τ, F, S, sa, h⟩ := h
  unfold mtD at h
  cases hi : τ[i]? with
  | none => rw [hi] at h; exact h.elim
  | some d2 =>
    rw [hi] at h
    cases d2 <;> first | (exact h.elim; done) | skip
    rename_i o2 xs
    cases o2 <;> first | (exact h.elim; done) | skip
    obtain ⟨p, vs, B, S0, e0, hp, _, _, _, _, _⟩ := sa.own hi
    refine ⟨.ref p, e0, .inl ⟨rfl, _, .inl (.inl hp)⟩, τ, F, S, sa, ?_⟩
    dsimp only at h
    cases e1 : g τ with
    | bad => rw [e1] at h; exact h
    | ex n d' τ2 => rw [e1] at h; exact h
    | ok hs τ2 =>
      rw [e1] at h
      intro us F2 H2 A2 S2 g2 sa2 r2 nd2
      dsimp only [Rz.bind] at h
      cases e2 : valsOf hs with
      | none => rw [e2] at h; exact h.elim
      | some as =>
        rw [e2] at h
        exact run_core ho sa2 (valsOf_rel e2 r2) nd2 e0 (Post.step (A := []) g2 h)
theorem t_mt0 {op : List D → List D → Option (D × List D)} {r : V → List V → Hp → VK → Prop} {i : Nat} {x name : Str} {id : String} {px apos cpos : Pos} (ho : MtO c r op) (slot : Slot "list" name id) (hty : typeOf (.builtin id) = pure (.type "method_descriptor")) (hm : MtR X id r)
    (hN : X.N[i]? = some x)
    (hv : Vis X.env.scope x := by first | exact Or.inl rfl | exact Or.inr (Or.inl rfl) | exact Or.inr (Or.inr rfl)) (hd : (x == ("__debug__" : Str)) = false := by decide) (hcd : (x == ("__classdict__" : Str)) = false := by decide)
    (hbase : attributeBase (.Name x px) name X.env (eval (.Name x px) X.env) = eval (.Name x px) X.env := by rfl)
    (hline : (apos.endLine == cpos.line) = true := by rfl) : Tr X c (.Call (.Attribute (.Name x px) name apos) [] [] cpos) (runL op i []) := by
  refine ⟨fun W tk => pe_mono (pe_bm0 PySem.F.plainAttrs_list slot hty hm (pe_var hN hv hd hcd) hbase hline) fun σ H Q h => ?_⟩
  obtain ⟨τ, F, S, sa, h⟩ := h
  have h0 := h
  unfold runL at h
  cases hi : τ[i]? with
  | none => rw [hi] at h; exact h.elim
  | some d2 =>
    rw [hi] at h
    cases d2 <;> first | (exact h.elim; done) | skip
    rename_i o2 xs
    cases o2 <;> first | (exact h.elim; done) | skip
    obtain ⟨p, vs, B, S0, e0, hp, _, _, _, _, _⟩ := sa.own hi
    exact ⟨.ref p, e0, .inl ⟨rfl, _, .inl (.inl hp)⟩, run_core (A := []) ho sa Rels.nil sa.nd e0 h0⟩
theorem t_append {i : Nat} {x : Str} {px apos cpos : Pos} (hN : X.N[i]? = some x) (ha : TrA X c (e :: es) g)
    (hv : Vis X.env.scope x := by first | exact Or.inl rfl | exact Or.inr (Or.inl rfl) | exact Or.inr (Or.inr rfl)) (hd : (x == ("__debug__" : Str)) = false := by decide) (hcd : (x == ("__classdict__" : Str)) = false := by decide)
    (hbase : attributeBase (.Name x px) "append" X.env (eval (.Name x px) X.env) = eval (.Name x px) X.env := by rfl)
    (hfew : ((backTo cpos (starEach (e :: es) X.env)).all (fun x => !x.1) && (backToKw cpos (keywordEach [] X.env)).all (fun x => x.1.isSome)
      && decide ((e :: es).length + ([] : List Keyword).length + (if ([] : List Keyword).isEmpty then 0 else 1) < 30)) = true := by rfl)
    (hline : (apos.endLine == cpos.line) = true := by rfl) (hs : starEach (e :: es) X.env = (false, eval e X.env) :: starEach es X.env := by rfl) (hplain : (backTo cpos (starEach es X.env)).any (·.1) = false := by rfl) :
    Tr X c (.Call (.Attribute (.Name x px) "append" apos) (e :: es) [] cpos) (mtD appL i g) :=
  t_mt app_ok PySem.F.slot_list_append PySem.F.type_list_append mt_append hN ha hv hd hcd hbase hfew hline hs hplain
theorem t_extend {i : Nat} {x : Str} {px apos cpos : Pos} (hN : X.N[i]? = some x) (ha : TrA X c (e :: es) g)
    (hv : Vis X.env.scope x := by first | exact Or.inl rfl | exact Or.inr (Or.inl rfl) | exact Or.inr (Or.inr rfl)) (hd : (x == ("__debug__" : Str)) = false := by decide) (hcd : (x == ("__classdict__" : Str)) = false := by decide)
    (hbase : attributeBase (.Name x px) "extend" X.env (eval (.Name x px) X.env) = eval (.Name x px) X.env := by rfl)
    (hfew : ((backTo cpos (starEach (e :: es) X.env)).all (fun x => !x.1) && (backToKw cpos (keywordEach [] X.env)).all (fun x => x.1.isSome)
      && decide ((e :: es).length + ([] : List Keyword).length + (if ([] : List Keyword).isEmpty then 0 else 1) < 30)) = true := by rfl)
    (hline : (apos.endLine == cpos.line) = true := by rfl) (hs : starEach (e :: es) X.env = (false, eval e X.env) :: starEach es X.env := by rfl) (hplain : (backTo cpos (starEach es X.env)).any (·.1) = false := by rfl) :
    Tr X c (.Call (.Attribute (.Name x px) "extend" apos) (e :: es) [] cpos) (mtD extL i g) :=
  t_mt ext_ok PySem.F.slot_list_extend PySem.F.type_list_extend mt_extend hN ha hv hd hcd hbase hfew hline hs hplain
theorem t_pop {i : Nat} {x : Str} {px apos cpos : Pos} (hN : X.N[i]? = some x)
    (hv : Vis X.env.scope x := by first | exact Or.inl rfl | exact Or.inr (Or.inl rfl) | exact Or.inr (Or.inr rfl)) (hd : (x == ("__debug__" : Str)) = false := by decide) (hcd : (x == ("__classdict__" : Str)) = false := by decide)
    (hbase : attributeBase (.Name x px) "pop" X.env (eval (.Name x px) X.env) = eval (.Name x px) X.env := by rfl)
    (hline : (apos.endLine == cpos.line) = true := by rfl) : Tr X c (.Call (.Attribute (.Name x px) "pop" apos) [] [] cpos) (runL popL i []) :=
  t_mt0 pop_ok PySem.F.slot_list_pop PySem.F.type_list_pop mt_pop hN hv hd hcd hbase hline
end
end Y
end

section
set_option Elab.async false
set_option linter.all false
set_option maxRecDepth 100000
set_option maxHeartbeats 4000000
/-! Y12: raise, try. -/
namespace Y
open PySem PySem.Spec PyProof.Rows L2

/-- an own error class: its __init__ stands at fI -/
structure ErrK (K : PySem.W.Frag) (C fI : Addr) : Prop where
  oex : OexC K C
  ini : PySem.W.findIn K (.ref C) "__init__" = some (some (.ref fI))
  wha : PySem.W.findIn K (.ref C) "what" = some none
/-- def __init__(self, what): ValueError.__init__(self, what); self.what = what -/
def spRi (K : PySem.W.Frag) : Sp := fun vs H Q _ => ∃ (a C : Addr) (v : V), vs = [.ref a, v] ∧ OexC K C ∧ PySem.W.findIn K (.ref C) "what" = some none ∧ H a = some (exo a C none) ∧
  ∀ dx, H dx = none → dx ≠ a → Q .non (upd (upd H dx (exd dx [(("what" : Str), v)])) a (exo a C (some dx)))
/-- raise x(e) -/
def sRaise (x : Str) (g : Den (List Hdl)) : SDen := fun τ => match g τ with
  | .ok [.val d] τ1 => if d.pl then .ex x d τ1 else .bad
  | .ok _ _ => .bad
  | .ex n d τ1 => .ex n d τ1
  | .bad => .bad
/-- x(e, ..), an own error class with an own __init__, its context kept -/
theorem mk_oexN {X : Cx} {x : Str} {C fI : Addr} {k : Nat} {fd : FuncData} {ps : List Str} {sp : Sp} {e : Expr} {es : List Expr} {ta : TA} {p pos : Pos} (T : OexC X.K C) (iC : PySem.W.findIn X.K (.ref C) "__init__" = some (some (.ref fI))) (tI : PySem.W.typeIn X.K (.ref fI) = some (.type "function"))
    (F1 : FnOk X.prog X.w X.K X.mg X.base (L2N.CX X.prog X.w) k fI fd ps sp) (hr : Room (k + 1) X.A) (hb : Binds X.K fd ps []) (hx : Passes (L2N.CX X.prog X.w) X (fun _ _ _ => False)) (hg : Gl X x) (hm : X.mg x = some (.ref C)) (ha : PA X (e :: es) ta)
    (hdb : (x == ("__debug__" : Str)) = false) (he : starEach (e :: es) X.env = (false, eval e X.env) :: starEach es X.env) (hpl : (backTo pos (starEach es X.env)).any (·.1) = false) : L2N.PMk X (.Call (.Name x p) (e :: es) [] pos) (tMkO C sp [] ta) := by
  intro pins s σ H Q I h
  obtain ⟨nm, qn, N, bs, bm, sn, sub, ab, col, dd, k0, k1, k2, k3, k5, cls, hbm⟩ := T.cls
  refine wpAny_Call_Name_kw (ld_glob I hg hm ?_ hdb)
  refine PySem.W.callWith_K (h₀ := X.base) I.ok.mod.kin T.kC (thn (ha.run pos pins s σ H _ I h) fun us s1 ⟨vs, H1, I1, r1, hz, q1⟩ => ⟨I1.kIn, ?_⟩) he hpl
  show wpAny _ _ (call (.ref C) us) _ _ _
  obtain ⟨hp, g, dr, tk, os⟩ := s1
  obtain ⟨a, ea⟩ : ∃ a, a = hp.objs.size + 1 := ⟨_, rfl⟩
  have sz : hp.objs.size ≤ a := by omega
  have kk : ∀ b o, hp.get? b = some o → ((hp.push (PySem.W.kdv_tup us)).push (PySem.HandSPX.excO C hp.objs.size)).get? b = some o := fun b o e => Heap.get?_push_of_some _ (Heap.get?_push_of_some _ e)
  have hget : ((hp.push (PySem.W.kdv_tup us)).push (PySem.HandSPX.excO C hp.objs.size)).get? a = some (PySem.HandSPX.excO C hp.objs.size) := by subst ea; heap_get
  have I2 : Inv X pins σ (upd H1 a (exo a C none)) ⟨(hp.push (PySem.W.kdv_tup us)).push (PySem.HandSPX.excO C hp.objs.size), g, dr, tk, os⟩ := I1.laid (t' := tk) (a := a) (o := exo a C none) kk sz (exo_ok hget)
  have hq := q1 a (I1.hok.fresh sz)
  rw [List.append_nil] at hq
  have r2 : Vals (V.ref a :: vs) (Value.ref a :: us) := .cons rfl r1
  have hl : (Value.ref a :: us ++ []).length = ps.length := by
    rw [List.append_nil, ← r2.length]
    exact F1.len _ _ _ _ hq
  have hus : us.length ≤ sizeLine := by
    rw [← Paired.length r1, sizeLine_eq]
    omega
  have hbb := hb _ (Value.ref a :: us) I2.kIn hl
  rw [List.append_nil] at hbb
  subst ea
  refine wpAny_call (PySem.HandSPX.call_own F.excBase_ValueError (fun Y => PySem.HandSPX.refsVE_contains Y bm hbm) (I1.kIn _ _ cls) (PySem.W.looks_findIn I1.kIn iC) (fun self => PySem.W.bind_fn I1.kIn self tI) hus
    (codeAny_mono (F1.run _ X.stack _ _ ⟨Value.ref (hp.objs.size + 1) :: us, []⟩ (Value.ref (hp.objs.size + 1) :: us) _ _ (fun _ _ _ => False) (hr.make C us []) (I2.env0.make C us []) hbb r2 hq) fun r s' hq' => ?_))
  cases r with
  | error er => exact hx pins σ _ _ er s' I2 hq'
  | ok fl =>
    cases fl with
    | next => exact False.elim hq'
    | brk => exact False.elim hq'
    | cont => exact False.elim hq'
    | ret u =>
      obtain ⟨v, H2, os2, bare2, un2, hok2, rv, ev, d, fs, e1, e2, hd1, q2⟩ := hq'
      subst ev
      obtain ⟨h2, g2, d2, t2, os'⟩ := s'
      obtain ⟨t0, G, J, kG, ge, hoe, na⟩ := mk_end0 (d2 := d2) (t2 := t2) I1 sz kk un2 hok2 os2 bare2 e1 e2 hd1
      exact ⟨rv, _, _, _, ⟨G, g2, d2, t2, os'⟩, _, .ref C, some d, rfl, J, kG, ge, hoe, ⟨rfl, rfl, fun vs e => by cases e; rfl⟩, rfl, rfl, na, rfl, bare2, raises_own T.exC T.tyC, q2⟩
section
variable {X : Cx} {c : Ctx} {a b e : Expr} {rest es : List Expr} {f f1 f2 f3 : Den Hdl} {g : Den (List Hdl)} {pos : Pos} {st : Stmt} {sts sts2 : List Stmt} {p q : SDen} {F H F1 H1 : Hp} {σ : L2.St} {τ τ1 : List D} {S S1 A : List Addr} {W : WX}
theorem s_raise {x : Str} {C fI : Addr} {fd : FuncData} {k : Nat} {px rpos : Pos} (T : ErrK X.K C fI) (tI : PySem.W.typeIn X.K (.ref fI) = some (.type "function")) (F1 : FnOk X.prog X.w X.K X.mg X.base (L2N.CX X.prog X.w) k fI fd ["self", "what"] (spRi X.K)) (hr : Room (k + 1) X.A)
    (hb : Binds X.K fd ["self", "what"] []) (hc : X.calm = true) (hM : c.mg = X.mg) (hm : X.mg x = some (.ref C)) (ha : TrA X c [e] g) (hg : Gl X x := by rfl) (hdb : (x == ("__debug__" : Str)) = false := by decide)
    (he : starEach [e] X.env = (false, eval e X.env) :: starEach [] X.env := by rfl) (hpl : (backTo pos (starEach [] X.env)).any (·.1) = false := by rfl) : Ts X c (.Raise (some (.Call (.Name x px) [e] [] pos)) none rpos) (sRaise x g) := by
  refine ⟨fun W tk => ps_mono (L2N.ps_raise hc tk (mk_oexN T.oex T.ini tI F1 hr hb (L2N.passes_call tk fun _ _ _ _ z => z.elim) hg hm (ha.pa W tk) hdb he hpl)) fun E σ H h => ?_⟩
  obtain ⟨τ, F, S, sa, h⟩ := h
  unfold sRaise at h
  refine ⟨τ, F, S, sa, ?_⟩
  cases e1 : g τ with
  | bad => rw [e1] at h; exact h
  | ex n d τ1 =>
    rw [e1] at h
    intro cv dx F' H' S' go sa' x
    exact (show PostS c W E F H S (.ex n d τ1) from h) cv dx σ F' H' S' go sa' x
  | ok hs τ1 =>
    rw [e1] at h
    intro vs F1 H1 A1 S1 g1 sa1 r1 nd1
    match hs, h, r1 with
    | [], h, _ => exact h.elim
    | .slot _ :: _, h, _ => exact h.elim
    | .val _ :: _ :: _, h, _ => exact h.elim
    | [.val d], h, r1 =>
      obtain ⟨v, ws, B, C1, rfl, rfl, q1, r2⟩ := r1
      obtain ⟨rfl, rfl⟩ := r2
      have q1 : Rel c F1 H1 d v B := q1
      have h : PostS c W E F H S (if d.pl = true then .ex x d τ1 else .bad) := h
      by_cases hp : d.pl = true
      · rw [if_pos hp] at h
        have eB := Rel.pl_nil q1 hp
        subst eB
        refine ⟨by show 1 ≤ 1000; decide, fun a ha => ⟨a, C, v, rfl, T.oex, T.wha, upd_same, fun dx hdx hne => ⟨rfl, dx, [(("what" : Str), v)], upd_same, ?_, ?_, ?_⟩⟩⟩
        · rw [upd_ne hne, upd_same]
        · rw [upd_ne hne] at hdx
          exact hdx
        · rw [upd_ne hne] at hdx
          have eH : upd (del (upd (upd (upd H1 a (exo a C none)) dx (exd dx [(("what" : Str), v)])) a (exo a C (some dx))) a) dx (.xd [(("what" : Str), v)]) = upd H1 dx (.xd [(("what" : Str), v)]) := by
            funext b
            by_cases hb : b = dx
            · subst hb
              rw [upd_same, upd_same]
            · rw [upd_ne hb, upd_ne hb]
              by_cases hba : b = a
              · subst hba
                rw [del_same, ha]
              · rw [del_ne hba, upd_ne hba, upd_ne hb, upd_ne hba]
          rw [eH]
          have gr : Grow F1 H1 (upd F1 dx (.xd [(("what" : Str), v)])) (upd H1 dx (.xd [(("what" : Str), v)])) [] := grow_frz sa1.ex hdx fun ps z => by cases z
          obtain ⟨sa2, _⟩ := gr.sa sa1
          exact (show PostS c W E F H S (.ex x d τ1) from h) (.ref C) (some dx) σ _ _ S1 (Go.trans0 (Go.less g1 fun b hb => hb) (gr.go S1)) sa2 ⟨C, dx, v, by rw [hM]; exact hm, rfl, rfl, upd_same, gr.rel q1⟩
      · rw [if_neg hp] at h
        exact h.elim

/-! ### try: body, except C as e: suite -/
/-- a slot gets what nobody follows -/
theorem SA.junk (sa : SA c F H σ τ S) {i : Nat} (x : Option V) (hf : c.fx i = false) : ∃ S', SA c F H (σ.set i x) (τ.set i .un) S' ∧ ∀ b ∈ S', b ∈ S := by
  have fx : ∀ j, c.fx j = true → (σ.set i x)[j]? = c.σ0[j]? := fun j hj => by
    have ne : i ≠ j := fun z => by
      subst z
      rw [hf] at hj
      cases hj
    rw [List.getElem?_set_ne ne]
    exact sa.fx j hj
  cases hi : τ[i]? with
  | none =>
    have l1 := sa.sl.length
    have l2 := List.getElem?_eq_none_iff.mp hi
    refine ⟨S, ⟨sa.ex, sa.nt, sa.fb, sa.tb, ?_, sa.nd, fx⟩, fun b hb => hb⟩
    rw [List.set_eq_of_length_le (by omega), List.set_eq_of_length_le (by omega)]
    exact sa.sl
  | some d0 =>
    obtain ⟨y, A0, B1, B2, e1, rfl, r1, k⟩ := Slots.at sa.sl hi
    have n2 := List.nodup_append.mp sa.nd
    have n3 := List.nodup_append.mp n2.2.1
    refine ⟨B1 ++ ([] ++ B2), ⟨sa.ex, sa.nt, sa.fb, sa.tb, k F H x .un [] (fun _ _ h => h) (fun b hb => ⟨rfl, (sa.owned b ?_).1⟩) rfl, ?_, fx⟩, fun b hb => ?_⟩
    · rcases List.mem_append.mp hb with y | y
      · exact List.mem_append_left _ y
      · exact List.mem_append_right _ (List.mem_append_right _ y)
    · exact List.nodup_append.mpr ⟨n2.1, n3.2.1, fun x hx y hy => n2.2.2 x hx y (List.mem_append_right _ hy)⟩
    · rcases List.mem_append.mp hb with y | y
      · exact List.mem_append_left _ y
      · exact List.mem_append_right _ (List.mem_append_right _ y)
/-- the surroundings of an except suite: the caught error a, of the class n, keeps dD; slot i is its name's -/
structure InX (c : Ctx) (i : Nat) (n : Str) (dD : D) (a : Addr) (cls : Value) (d : Option Addr) (c' : Ctx) : Prop where
  K : c'.K = c.K
  mg : c'.mg = c.mg
  T : c'.T = c.T
  G : c'.G = c.G
  fx : c'.fx = fun j => c.fx j || j == i
  s0 : c'.σ0[i]? = some (some (.ref a))
  ex : ExP c' c'.FB c'.FB n dD cls d
def sTry (sub : Str → Option Bool) (i : Nat) (p : SDen) (q : Str → D → SDen) : SDen := fun τ => match p τ with
  | .ex n d τ1 => (match sub n with
    | some true => if i < τ1.length then (match q n d (τ1.set i .un) with
      | .nx τ2 => .nx (τ2.set i .un)
      | .bk τ2 => .bk (τ2.set i .un)
      | .ct τ2 => .ct (τ2.set i .un)
      | .rt d τ2 => .rt d τ2
      | _ => .bad) else .bad
    | some false => .ex n d τ1
    | none => .bad)
  | r => r
theorem s_try {x n : Str} {C : Value} {i : Nat} {sub : Str → Option Bool} {body suite : List Stmt} {b₀ : Stmt} {np pos pos' : Pos} {q : Str → D → SDen} (hs : X.stack = X.env :: X.outer) (hf : X.env.frame = some X.env.locals) (hN : X.N.Nodup) (hi : X.N[i]? = some n) (hln : X.env.kindOf n = some .local) (hc : Names X x C)
    (hK : c.K = X.K) (hM : c.mg = X.mg) (hfi : c.fx i = false) (hsub : ∀ n C' b, X.mg n = some (.ref C') → sub n = some b → PySem.W.exmOne X.K (.ref C') C = some b)
    (hb : ∀ (pn : List (Addr × Obj)) (xe : Value → Shared → Prop), PassesOwn (model X.prog X.w) X.A X.env xe → Tss (X.tr pn xe) c body p)
    (hsu : ∀ (n : Str) (dD : D) (a : Addr) (oe : Obj) (cls : Value) (d : Option Addr) (pn : List (Addr × Obj)) (c' : Ctx), sub n = some true → InX c i n dD a cls d c' → L2N.Zn cls d oe → (∃ vs, oe.data = .fields vs) → Tss (X.suite a ((a, oe) :: pn)) c' (b₀ :: suite) (q n dD)) :
    Ts X c (.Try body [.ExceptHandler (some (.Name x np)) (some n) (b₀ :: suite) pos'] [] [] pos) (sTry sub i p q) := by
  refine ⟨fun W tk => ps_mono (L2N.ps_try_as (tb := fun W => tS c p W) (ts := fun a cls d D σ H => ∃ n dD c', sub n = some true ∧ InX c i n dD a cls d c' ∧ tS c' (q n dD) (fun _ _ _ _ => False) D σ H) hs hf hN hi hln hc tk (fun W pn xe tk' hp => (hb pn xe hp).pss W tk') (fun a oe cls d pn hz hf => ⟨fun pins s σ H D I h => ?_⟩)) fun E σ H h => ?_⟩
  · obtain ⟨n, dD, c', e1, e2, h⟩ := h
    exact ((hsu n dD a oe cls d pn c' e1 e2 hz hf).pss _ takesF).run pins s σ H D I h
  · obtain ⟨τ, F, S, sa, h⟩ := h
    refine ⟨τ, F, S, sa, ?_⟩
    unfold sTry at h
    cases e1 : p τ with
    | bad => rw [e1] at h; exact h
    | nx τ1 => rw [e1] at h; exact h
    | rt d τ1 => rw [e1] at h; exact h
    | bk τ1 => rw [e1] at h; exact h
    | ct τ1 => rw [e1] at h; exact h
    | ex n d τ1 =>
      rw [e1] at h
      intro cv dx σ1 F1 H1 S1 go sa1 x1
      obtain ⟨C', a', v, m1, rfl, rfl, xF, xr⟩ := id x1
      have h : PostS c W E F H S (match sub n with
        | some true => if i < τ1.length then (match q n d (τ1.set i .un) with
          | .nx τ2 => .nx (τ2.set i .un)
          | .bk τ2 => .bk (τ2.set i .un)
          | .ct τ2 => .ct (τ2.set i .un)
          | .rt d τ2 => .rt d τ2
          | _ => .bad) else .bad
        | some false => .ex n d τ1
        | none => .bad) := h
      cases e2 : sub n with
      | none => rw [e2] at h; exact h.elim
      | some b =>
        refine ⟨b, hsub n C' b (by rw [← hM]; exact m1) e2, fun eb a na => ?_, fun eb => ?_⟩
        · subst eb
          rw [e2] at h
          obtain ⟨c', hc'⟩ : ∃ c' : Ctx, c' = { c with FB := F1, fx := fun j => c.fx j || j == i, σ0 := σ1.set i (some (.ref a)) } := ⟨_, rfl⟩
          have kK : c'.K = c.K := by rw [hc']
          have kG : c'.G = c.G := by rw [hc']
          have kM : c'.mg = c.mg := by rw [hc']
          obtain ⟨S2, sa2, hm2⟩ := sa1.junk (some (.ref a)) hfi
          have sa3 : SA c' F1 H1 (σ1.set i (some (.ref a))) (τ1.set i .un) S2 := ⟨sa2.ex, sa2.nt, fun b o e => by
            rw [hc'] at e
            exact e, by
            have t := sa2.tb
            rw [hc']
            exact ⟨t.tabs, t.code⟩, Slots.ctxG kK kG sa2.sl, sa2.nd, fun j _ => by rw [hc']⟩
          by_cases hl : i < τ1.length
          · have h : PostS c W E F H S (match q n d (τ1.set i .un) with
              | .nx τ2 => .nx (τ2.set i .un)
              | .bk τ2 => .bk (τ2.set i .un)
              | .ct τ2 => .ct (τ2.set i .un)
              | .rt d τ2 => .rt d τ2
              | _ => .bad) := by
              have h' : PostS c W E F H S (if i < τ1.length then (match q n d (τ1.set i .un) with
                | .nx τ2 => .nx (τ2.set i .un)
                | .bk τ2 => .bk (τ2.set i .un)
                | .ct τ2 => .ct (τ2.set i .un)
                | .rt d τ2 => .rt d τ2
                | _ => .bad) else .bad) := h
              rw [if_pos hl] at h'
              exact h'
            have l1 := sa1.sl.length
            refine ⟨n, d, c', e2, ?_, τ1.set i .un, F1, S2, sa3, ?_⟩
            · refine ⟨kK, kM, by rw [hc'], kG, by rw [hc'], ?_, ⟨C', a', v, by rw [kM]; exact m1, rfl, rfl, by rw [hc']; exact xF, ?_⟩⟩
              · rw [hc']
                exact List.getElem?_set_self (by omega)
              · have q := Rel.mono (H' := F1) (fun _ _ h => h) xr (fun b z => by cases z)
                have q2 := Rel.ctxG kK kG q
                rw [hc'] at q2 ⊢
                exact q2
            · -- back from the suite
              have back : ∀ {σ' : L2.St} {τ' : List D} {F' H' : Hp} {S' : List Addr}, SA c' F' H' σ' τ' S' → (∀ b o, F1 b = some o → F' b = some o) → ∃ S3, SA c F' H' (σ'.set i none) (τ'.set i .un) S3 ∧ ∀ b ∈ S3, b ∈ S' := fun {σ' τ' F' H' S'} sa hF => by
                have g2 : SA { c with fx := fun j => false } F' H' σ' τ' S' := ⟨sa.ex, sa.nt, fun b o e => hF b o (sa1.fb b o e), by
                  have t := sa.tb
                  rw [hc'] at t
                  exact ⟨t.tabs, t.code⟩, Slots.ctxG (by rw [hc']) (by rw [hc']) sa.sl, sa.nd, fun j z => by cases z⟩
                obtain ⟨S3, g3, hm⟩ := g2.junk (i := i) none rfl
                refine ⟨S3, ⟨g3.ex, g3.nt, g3.fb, ⟨g3.tb.tabs, g3.tb.code⟩, Slots.ctxG (c := { c with fx := fun j => false }) (c' := c) rfl rfl g3.sl, g3.nd, fun j hj => ?_⟩, hm⟩
                have ne : i ≠ j := fun z => by
                  subst z
                  rw [hfi] at hj
                  cases hj
                have q := sa.fx j (by rw [hc']; show (c.fx j || j == i) = true; rw [hj]; rfl)
                rw [List.getElem?_set_ne ne, q, hc']
                show (σ1.set i (some (.ref a)))[j]? = _
                rw [List.getElem?_set_ne ne]
                exact sa1.fx j hj
              have g0 : Go F H S F1 H1 S2 := Go.less go hm2
              cases e3 : q n d (τ1.set i .un) with
              | bad => rw [e3] at h; exact h
              | ex _ _ _ => rw [e3] at h; exact h.elim
              | nx τ2 =>
                rw [e3] at h
                intro σ' F' H' S' g2 sa'
                obtain ⟨S3, sa4, hm⟩ := back sa' g2.f
                exact (show PostS c W E F H S (.nx (τ2.set i .un)) from h) _ F' H' S3 (Go.less (Go.trans0 g0 g2) hm) sa4
              | bk τ2 =>
                rw [e3] at h
                intro σ' F' H' S' g2 sa'
                obtain ⟨S3, sa4, hm⟩ := back sa' g2.f
                exact (show PostS c W E F H S (.bk (τ2.set i .un)) from h) _ F' H' S3 (Go.less (Go.trans0 g0 g2) hm) sa4
              | ct τ2 =>
                rw [e3] at h
                intro σ' F' H' S' g2 sa'
                obtain ⟨S3, sa4, hm⟩ := back sa' g2.f
                exact (show PostS c W E F H S (.ct (τ2.set i .un)) from h) _ F' H' S3 (Go.less (Go.trans0 g0 g2) hm) sa4
              | rt d2 τ2 =>
                rw [e3] at h
                intro v2 σ' F' H' A' S' g2 sa' rr nd
                have g4 : SA c F' H' σ' τ2 S' := ⟨sa'.ex, sa'.nt, fun b o e => g2.f b o (sa1.fb b o e), by
                  have t := sa'.tb
                  rw [hc'] at t
                  exact ⟨t.tabs, t.code⟩, Slots.ctxG kK.symm kG.symm sa'.sl, sa'.nd, fun j hj => by
                  have ne : i ≠ j := fun z => by
                    subst z
                    rw [hfi] at hj
                    cases hj
                  have q := sa'.fx j (by rw [hc']; show (c.fx j || j == i) = true; rw [hj]; rfl)
                  rw [q, hc']
                  show (σ1.set i (some (.ref a)))[j]? = _
                  rw [List.getElem?_set_ne ne]
                  exact sa1.fx j hj⟩
                exact (show PostS c W E F H S (.rt d2 τ2) from h) v2 σ' F' H' A' S' (Go.trans0 g0 g2) g4 (Rel.ctxG kK.symm kG.symm rr) nd
          · have h' : PostS c W E F H S (if i < τ1.length then (match q n d (τ1.set i .un) with
              | .nx τ2 => .nx (τ2.set i .un)
              | .bk τ2 => .bk (τ2.set i .un)
              | .ct τ2 => .ct (τ2.set i .un)
              | .rt d τ2 => .rt d τ2
              | _ => .bad) else .bad) := h
            rw [if_neg hl] at h'
            exact h'.elim
        · subst eb
          rw [e2] at h
          exact (show PostS c W E F H S (.ex n d τ1) from h) (.ref C') (some a') σ1 F1 H1 S1 go sa1 x1

/-! ### within the suite -/
/-- e.what -/
theorem t_what {i : Nat} {x n : Str} {dD : D} {a : Addr} {oe : Obj} {cls : Value} {d : Option Addr} {pn : List (Addr × Obj)} {c' : Ctx} {px : Pos} (hN : X.N[i]? = some x) (Ix : InX c i n dD a cls d c') (hK : c.K = X.K) (hM : c.mg = X.mg)
    (hX : ∀ C, X.mg n = some (.ref C) → XfC X.K C ∧ PySem.W.findIn X.K (.ref C) "what" = some none) (hz : Zc cls d oe) (hf : ∃ vs, oe.data = .fields vs)
    (hv : Vis X.env.scope x := by first | exact Or.inl rfl | exact Or.inr (Or.inl rfl) | exact Or.inr (Or.inr rfl)) (hd : (x == ("__debug__" : Str)) = false := by decide) (hcd : (x == ("__classdict__" : Str)) = false := by decide)
    (hb : attributeBase (.Name x px) "what" X.env (eval (.Name x px) X.env) = eval (.Name x px) X.env := by rfl) : Tr (X.suite a ((a, oe) :: pn)) c' (.Attribute (.Name x px) "what" pos) (cst dD) := by
  obtain ⟨C, a', v, m1, rfl, rfl, xF, xr⟩ := Ix.ex
  obtain ⟨TX, hno⟩ := hX C (by rw [← hM, ← Ix.mg]; exact m1)
  refine ⟨fun W _ => pe_mono (pe_xf (X := X) TX hno hz hf (pe_var (X := X.suite a ((a, oe) :: pn)) (i := i) hN hv hd hcd) hb) fun σ H Q h => ?_⟩
  obtain ⟨τ, F, S, sa, h⟩ := h
  have e1 : σ[i]? = some (some (.ref a)) := (sa.fx i (by rw [Ix.fx]; simp)).trans Ix.s0
  refine ⟨.ref a, e1, rfl, rfl, a', _, v, rfl, sa.ex _ _ (sa.fb _ _ xF), rfl, ?_⟩
  exact (show Post c' (fun F H => RelH c' F H σ) W F H σ S Q (.ok (.val dD) τ) from h) v F H [] S Go.refl sa (Rel.mono sa.fb xr fun b z => by cases z) sa.nd
/-- isinstance(e, B) -/
structure IsK (K : PySem.W.Frag) (C : Addr) : Prop where
  cl : (PySem.W.clsIn K C).isSome = true
  ga : PySem.W.findIn K (.ref C) "__getattribute__" = some (some (.builtin "BaseException.__getattribute__"))
  gg : PySem.W.findIn K (.ref C) "__getattr__" = some none
  sb : PySem.W.subIn K (.ref C) (.type "BaseException") = some true
  ca : PySem.W.findIn K (.ref C) "__class__" = some (some (.builtin "object.__class__"))
  hn : PySem.W.specialIn K (.builtin "object.__class__") "__get__" = some (some (.builtin "getset_descriptor.__get__"))
  tk : PySem.W.takesIn K (.builtin "object.__class__") = some true
  mr : PySem.W.mroIn K C (.type "object") = some true
def rIsX (K : PySem.W.Frag) (C a dd : Addr) (B : Addr) (b : Bool) : List V → Hp → VK → Prop := fun xs H Q => xs = [.ref a, .ref B] ∧ (∃ fs, H dd = some (.xd fs)) ∧ Q (.bl b) H
theorem call_isX {a C dd B : Addr} {b : Bool} {oe : Obj} {pn : List (Addr × Obj)} (T : IsK X.K C) (hk : PySem.W.kitOne X.K (.ref C) (.ref B) = some b) (hz : Zc (.ref C) (some dd) oe) (hf : ∃ vs, oe.data = .fields vs) :
    CallR (X.suite a ((a, oe) :: pn)) (.builtin "isinstance") (rIsX X.K C a dd B b) := by
  intro pins s σ H xs us Q I r h
  obtain ⟨rfl, ⟨fs, ea⟩, q⟩ := h
  cases r with
  | cons rx rr =>
    cases rr with
    | cons rt rr =>
      cases rr
      cases rx
      cases rt
      obtain ⟨hget, _⟩ := I.pin (a, oe) (List.mem_append.mpr (.inl List.mem_cons_self))
      obtain ⟨vs, hv⟩ := hf
      have hx : ObjOk X.prog X.w H s.heap dd (.xd fs) := I.hok dd _ ea
      obtain ⟨mA, hns, hr⟩ := hx
      obtain ⟨od, ho, hl⟩ := lookIn_ns hns
      have J : PySem.W.InstAt s.heap a oe C (some od) := by
        refine ⟨hget, hz.1, ?_, ?_⟩
        · unfold PySem.W.notCls
          rw [hv] <;> rfl
        · rw [hz.2]
          exact ho
      exact PySem.W.kia_one (PySem.W.kitx_exc T.cl T.ga T.gg T.sb T.ca T.hn T.tk T.mr) I.kIn J hk (fun z => nomatch z) fun tk => ⟨.bl b, H, I.kept (t' := tk) fun _ _ z => z, rfl, q⟩
theorem t_isX {i : Nat} {x y n : Str} {dD : D} {a B : Addr} {b : Bool} {oe : Obj} {cls : Value} {d : Option Addr} {pn : List (Addr × Obj)} {c' : Ctx} {px p0 p1 : Pos} (hN : X.N[i]? = some x) (Ix : InX c i n dD a cls d c') (hM : c.mg = X.mg)
    (hX : ∀ C, X.mg n = some (.ref C) → IsK X.K C ∧ PySem.W.kitOne X.K (.ref C) (.ref B) = some b) (hz : Zc cls d oe) (hf : ∃ vs, oe.data = .fields vs) (hm : X.mg "isinstance" = none) (hmB : X.mg y = some (.ref B))
    (hv : Vis X.env.scope x := by first | exact Or.inl rfl | exact Or.inr (Or.inl rfl) | exact Or.inr (Or.inr rfl)) (hd : (x == ("__debug__" : Str)) = false := by decide) (hcd : (x == ("__classdict__" : Str)) = false := by decide)
    (hg : Gl X "isinstance" := by rfl) (hgB : Gl X y := by rfl) (hdB : (y == ("__debug__" : Str)) = false := by decide)
    (he : starEach [.Name x px, .Name y p1] X.env = (false, eval (.Name x px) X.env) :: starEach [.Name y p1] X.env := by rfl) (he2 : starEach [.Name y p1] X.env = (false, eval (.Name y p1) X.env) :: starEach [] X.env := by rfl) (hpl : (backTo pos (starEach [.Name y p1] X.env)).any (·.1) = false := by rfl) :
    Tr (X.suite a ((a, oe) :: pn)) c' (.Call (.Name "isinstance" p0) [.Name x px, .Name y p1] [] pos) (cst (.bl b)) := by
  obtain ⟨C, a', v, m1, rfl, rfl, xF, xr⟩ := Ix.ex
  obtain ⟨T, hk⟩ := hX C (by rw [← hM, ← Ix.mg]; exact m1)
  refine ⟨fun W _ => pe_mono (pe_callB (X := X.suite a ((a, oe) :: pn)) (call_isX (X := X) T hk hz hf) hg hm (by decide +kernel) (pa_cons (pe_var (X := X.suite a ((a, oe) :: pn)) (i := i) hN hv hd hcd) (pa_cons (pe_glob (X := X.suite a ((a, oe) :: pn)) (v := .ref B) hgB hmB rfl hdB) pa_nil he2) he) (by decide) (by decide) he hpl) fun σ H Q h => ?_⟩
  obtain ⟨τ, F, S, sa, h⟩ := h
  have e1 : σ[i]? = some (some (.ref a)) := (sa.fx i (by rw [Ix.fx]; simp)).trans Ix.s0
  refine ⟨.ref a, e1, rfl, ⟨_, sa.ex _ _ (sa.fb _ _ xF)⟩, ?_⟩
  exact (show Post c' (fun F H => RelH c' F H σ) W F H σ S Q (.ok (.val (.bl b)) τ) from h) (.bl b) F H [] S Go.refl sa ⟨rfl, rfl⟩ sa.nd
end
end Y
end

section
set_option Elab.async false
set_option linter.all false
set_option maxRecDepth 100000
set_option maxHeartbeats 4000000
/-! Y13: the ends: from a law's denotation to the statement. -/
namespace Y
open PySem PySem.Spec PyProof.Rows L2

/-! ### facts of error classes, by a Bool -/
def oexB (K : PySem.W.Frag) (C : Addr) : Bool := match K.lookup C with
  | some ⟨.type t, _, .cls cd, sl⟩ => decide (t = "type") && (match cd.mro, sl.toList with
    | .ref C' :: bm, [_, _, _, _, some (.builtin n), _] => decide (C' = C) && (decide (n = "ValueError.__new__") && (!cd.hasDel && (cd.hasDict && PySem.HandSPX.refsVE bm)))
    | _, _ => false)
  | _ => false
theorem oexB_ok {K : PySem.W.Frag} {C : Addr} (q : oexB K C = true) : ∃ nm qn N bs bm sn sub ab col dd k0 k1 k2 k3 k5, K.lookup C = some (excClassObj nm qn C N bs bm true sn sub ab col dd k0 k1 k2 k3 k5 "ValueError.__new__") ∧ PySem.HandSPX.refsVE bm = true := by
  unfold oexB at q
  cases ho : K.lookup C with
  | none => rw [ho] at q; cases q
  | some o =>
  rw [ho] at q
  obtain ⟨oc, dd, dt, sl⟩ := o
  cases oc <;> cases dt <;> first | (cases q; done) | skip
  rename_i t cd
  have q0 : (decide (t = "type") && (match cd.mro, sl.toList with
    | .ref C' :: bm, [_, _, _, _, some (.builtin n), _] => decide (C' = C) && (decide (n = "ValueError.__new__") && (!cd.hasDel && (cd.hasDict && PySem.HandSPX.refsVE bm)))
    | _, _ => false)) = true := q
  clear q
  obtain ⟨h0, q1⟩ := He.ba q0
  have e0 := of_decide_eq_true h0
  subst e0
  clear q0
  split at q1
  case h_2 => cases q1
  rename_i C' bm k0 k1 k2 k3 n k5 hm hs
  obtain ⟨h1, q2⟩ := He.ba q1
  obtain ⟨h2, q3⟩ := He.ba q2
  obtain ⟨h3, q4⟩ := He.ba q3
  obtain ⟨h4, h5⟩ := He.ba q4
  have e1 := of_decide_eq_true h1
  have e2 := of_decide_eq_true h2
  subst e1 e2
  obtain ⟨nm, bs, mro, ns, qn, hd, sn, sub, ab, col, del⟩ := cd
  dsimp only at hm h3 h4
  subst hm h4
  cases del with
  | true => cases h3
  | false =>
    have hsl : sl = #[k0, k1, k2, k3, some (.builtin "ValueError.__new__"), k5] := by
      obtain ⟨l⟩ := sl
      have : l = _ := hs
      rw [this]
    subst hsl
    exact ⟨nm, qn, ns, bs, bm, sn, sub, ab, col, dd, k0, k1, k2, k3, k5, rfl, h5⟩
/-- all that is asked of an error class -/
def errB (K : PySem.W.Frag) (fI C : Addr) : Bool :=
  oexB K C && (He.eqO (PySem.W.findIn K (.ref C) "__setattr__") (some (some (.builtin "object.__setattr__"))) && (decide (PySem.W.subIn K (.ref C) (.type "BaseException") = some true) && (decide (PySem.W.typeIn K (.ref C) = some (.type "type")) && (PySem.W.keepIn K (.ref C) &&
  (He.eqO (PySem.W.findIn K (.ref C) "__init__") (some (some (.ref fI))) && (He.eqO (PySem.W.findIn K (.ref C) "what") (some none) && (xfB K C && ((PySem.W.clsIn K C).isSome && (He.eqO (PySem.W.findIn K (.ref C) "__class__") (some (some (.builtin "object.__class__"))) &&
  (decide (PySem.W.mroIn K C (.type "object") = some true)))))))))))
/-- what K says of object.__class__ -/
def objB (K : PySem.W.Frag) (fI : Addr) : Bool := He.eqO (PySem.W.specialIn K (.builtin "object.__class__") "__get__") (some (some (.builtin "getset_descriptor.__get__"))) && (decide (PySem.W.takesIn K (.builtin "object.__class__") = some true) &&
  (decide (PySem.W.typeIn K (.ref fI) = some (.type "function")) && (match PySem.W.findCls K (.type "ValueError") (.type "type") "__init__" with
  | some (.val (.builtin n)) => decide (n = "ValueError.__init__")
  | _ => false)))
structure ErrF (K : PySem.W.Frag) (fI C : Addr) : Prop where
  k : ErrK K C fI
  x : XfC K C
  i : IsK K C
theorem errB_ok {K : PySem.W.Frag} {fI C : Addr} (ho : objB K fI = true) (h : errB K fI C = true) : ErrF K fI C := by
  unfold errB at h
  obtain ⟨a1, h⟩ := He.ba h
  obtain ⟨a2, h⟩ := He.ba h
  obtain ⟨a3, h⟩ := He.ba h
  obtain ⟨a4, h⟩ := He.ba h
  obtain ⟨a5, h⟩ := He.ba h
  obtain ⟨a6, h⟩ := He.ba h
  obtain ⟨a7, h⟩ := He.ba h
  obtain ⟨a8, h⟩ := He.ba h
  obtain ⟨a9, h⟩ := He.ba h
  obtain ⟨a10, a11⟩ := He.ba h
  unfold objB at ho
  obtain ⟨o1, ho⟩ := He.ba ho
  obtain ⟨o2, _⟩ := He.ba ho
  have X := xfB_ok a8
  exact ⟨⟨⟨oexB_ok a1, He.eqO_ok a2, of_decide_eq_true a3, of_decide_eq_true a4, a5⟩, He.eqO_ok a6, He.eqO_ok a7⟩, X, ⟨a9, X.ga, X.gg, of_decide_eq_true a3, He.eqO_ok a10, He.eqO_ok o1, of_decide_eq_true o2, of_decide_eq_true a11⟩⟩
/-! ### a def from the head's facts -/
theorem fun_of {K : PySem.W.Frag} {x qual : Str} {st : Stmt} {f : Addr} {fd : FuncData} (F : FunD K x qual (defArgs st) (defBody st) (defScope st) [] [] f fd) : Fun K x qual st f fd := by
  obtain ⟨⟨oc, od, dV, kV, doc, pm, an, cdv, ct, osl, e, lk, hc, hd, _⟩, kp⟩ := F
  have : dV = .none := by
    rcases hd with ⟨_, e⟩ | ⟨e, _⟩
    · exact e
    · exact absurd rfl e
  subst this
  exact ⟨⟨oc, od, kV, doc, pm, an, cdv, ct, osl, e, lk, hc⟩, kp⟩
theorem code_of {K : PySem.W.Frag} {x qual : Str} {st : Stmt} {p : He.Defn} {fd : FuncData} (F : Fun K x qual st (He.fAd K p) fd) : fd.code = .ref (He.codeOf K p) := by
  obtain ⟨oc, od, kV, doc, pm, an, cdv, ct, osl, rfl, lk, hc⟩ := F.ex
  obtain ⟨c, rfl⟩ := He.codeIn_ref hc
  rw [He.codeOf_eq lk rfl]
/-! ### the law -/
def spL (K : PySem.W.Frag) (cs : List (Addr × Addr)) : Sp := fun vs H Q _ => ∃ (a : Addr) (ns : List Int), vs = [.ref a] ∧ SqL K H a (ns.map V.int) ∧ ns.length ≤ 63 ∧ (∀ z ∈ ns, Builtin.Int.intBits z ≤ 1048576) ∧ (∀ p ∈ cs, H p.2 = some (.tbl #[])) ∧ ∀ H', Q (.bl true) H'
def unT (H : Hp) : Hp := fun b => match H b with
  | some (.tbl _) => none
  | o => o
theorem unT_sub {H : Hp} {b : Addr} {o : HO} (h : unT H b = some o) : H b = some o := by
  unfold unT at h
  split at h
  · cases h
  · exact h
theorem unT_at {H : Hp} {b : Addr} {o : HO} (h : H b = some o) (ht : ∀ ps, o ≠ .tbl ps) : unT H b = some o := by
  unfold unT
  rw [h]
  cases o <;> first | rfl | exact absurd rfl (ht _)
theorem law_ok {P : Program} {w : World} {K : PySem.W.Frag} {mg : Str → Option Value} {base : Heap} {T : List (Addr × Str)} {LC k : Nat} {f : Addr} {fd : FuncData} {cs : List (Addr × Addr)} {den : List D → Rt} (hA : FnA P w K mg base T LC k f fd ["script"] den)
    (hT : ∀ p ∈ T, p.1 ∈ cs.map (·.2)) (hden : ∀ ns : List Int, ns.length ≤ 63 → (∀ z ∈ ns, Builtin.Int.intBits z ≤ 1048576) → ∃ ps, den [.scr ns] = .ok (.bl true) ps) : FnOk P w K mg base (L2N.CX P w) k f fd ["script"] (spL K cs) := by
  refine ⟨fun vs H Q E h => ?_, fun A outer s H args us vs Q E hr e0 hb r h => ?_⟩
  · obtain ⟨a, ns, rfl, _⟩ := h
    rfl
  · obtain ⟨a, ns, rfl, hS, hl, hz, hc, q⟩ := h
    obtain ⟨ps, e⟩ := hden ns hl hz
    refine hA.run ⟨K, mg, T, fun _ => none, fun _ => none, fun _ => false, [], []⟩ A outer s H args us [.ref a] Q E rfl rfl rfl hr e0 (fun f r z => by cases z) hb r ?_
    refine ⟨unT H, [.scr ns], [], ⟨fun b o z => unT_sub z, fun b ps z => ?_, ⟨fun p hp => ?_, fun p hp => (by cases hp)⟩⟩, fun b o z => (by cases z), ⟨.ref a, [], [], [], rfl, rfl, ⟨a, rfl, ?_, rfl⟩, rfl, rfl⟩, List.nodup_nil, ?_⟩
    · unfold unT at z
      split at z
      · cases z
      · rename_i h1
        exact h1 _ z
    · obtain ⟨p', hp', e'⟩ := List.mem_map.mp (hT p hp)
      refine LamX.TabS.nil ?_
      rw [← e']
      exact hc p' hp'
    · rcases hS with (h | ⟨o, h⟩) | h
      · exact .inl (.inl (unT_at h fun _ z => by cases z))
      · exact .inl (.inr ⟨o, unT_at h fun _ z => by cases z⟩)
      · exact .inr h
    · rw [e]
      intro v F' H' B B' go fin rr sl nd
      obtain ⟨rfl, _⟩ := rr
      exact q H'
theorem law_at {l : PySem.W.OpenLaw} {w : World} {K : PySem.W.Frag} {mg : Str → Option Value} {fa : Addr} {h : Heap} {T : List (Addr × Str)} {LC k : Nat} {fd : FuncData} {cs : List (Addr × Addr)} {den : List D → Rt} (hE : ∀ p ∈ cs, h.get? p.2 = some { cls := .none, data := .fields #[] }) (hO : ∀ p ∈ cs, K.lookup p.2 = none)
    (hH : ∀ p ∈ cs, PySem.W.CodeHd h p.1 p.2) (hb : ∀ (s : Shared) (u : Value), BindsTo s fd ⟨[u], []⟩ [("script", u)]) (hT : ∀ p ∈ T, p.1 ∈ cs.map (·.2))
    (hden : ∀ ns : List Int, ns.length ≤ 63 → (∀ z ∈ ns, Builtin.Int.intBits z ≤ 1048576) → ∃ ps, den [.scr ns] = .ok (.bl true) ps)
    (hA : ∀ base : Heap, K.In base → base.Ns mainGlobals mg → (∀ p ∈ cs, LamX.TabB base mg p.1 p.2) → FnA l.prog w K mg base T LC k fa fd ["script"] den) : LamX.LawAtS l w K (L2N.CX l.prog w) k 63 "script" mg fa h :=
  ⟨fd, cs, spL K cs, hE, hO, hH, hb, fun H a ns hl hz hc hS => ⟨a, ns, rfl, hS, hl, hz, hc, fun _ => rfl⟩, fun base h1 h2 h3 => law_ok (hA base h1 h2 h3) hT hden⟩
end Y
end

section
set_option Elab.async false
set_option linter.all false
set_option maxRecDepth 100000
set_option maxHeartbeats 4000000
/-! Y14: comparisons as tests, chains. -/
namespace Y
open PySem PySem.Spec PyProof.Rows L2
section
variable {X : Cx} {c : Ctx} {a b e d : Expr} {f1 f2 f3 : Den Hdl} {pos : Pos}
theorem tt_lt (ha : Tr X c a f1) (hb : Tr X c b f2) : TrT X c (.Compare a [.Lt] [b] pos) (tst (bin ltD f1 f2)) := tt_cmp op_lt (iop_sound fun _ _ _ _ => rel_bl) ha hb
theorem tt_le (ha : Tr X c a f1) (hb : Tr X c b f2) : TrT X c (.Compare a [.LtE] [b] pos) (tst (bin leD f1 f2)) := tt_cmp op_le (iop_sound fun _ _ _ _ => rel_bl) ha hb
theorem tt_gt (ha : Tr X c a f1) (hb : Tr X c b f2) : TrT X c (.Compare a [.Gt] [b] pos) (tst (bin gtD f1 f2)) := tt_cmp op_gt (iop_sound fun _ _ _ _ => rel_bl) ha hb
theorem tt_ge (ha : Tr X c a f1) (hb : Tr X c b f2) : TrT X c (.Compare a [.GtE] [b] pos) (tst (bin geD f1 f2)) := tt_cmp op_ge (iop_sound fun _ _ _ _ => rel_bl) ha hb
theorem tt_eq (hK : c.K = X.K) (hu : X.A.units + 64 < cLine) (ha : Tr X c a f1) (hb : Tr X c b f2) : TrT X c (.Compare a [.Eq] [b] pos) (tst (bin eqD f1 f2)) :=
  tt_cmp (r := rEqA c.K) (by rw [hK]; exact (op_eq.or (op_eqD hu)).or (op_eqLen (by omega))) eq_sound ha hb
theorem tt_ne (hK : c.K = X.K) (hu : X.A.units + 64 < cLine) (ha : Tr X c a f1) (hb : Tr X c b f2) : TrT X c (.Compare a [.NotEq] [b] pos) (tst (bin neD f1 f2)) :=
  tt_cmp (r := rNeA c.K) (by rw [hK]; exact (op_ne.or (op_neD hu)).or (op_neLen (by omega))) ne_sound ha hb
theorem tt_isN (ha : Tr X c a f1) (hb : Tr X c b f2) : TrT X c (.Compare a [.Is] [b] pos) (tst (bin isND f1 f2)) := tt_cmp op_isN isN_sound ha hb
theorem tt_notN (ha : Tr X c a f1) (hb : Tr X c b f2) : TrT X c (.Compare a [.IsNot] [b] pos) (tst (bin notND f1 f2)) := tt_cmp op_notN notN_sound ha hb
/-- a <= b < d and the like -/
structure Ord1 (X : Cx) (c : Ctx) (op : CmpOp) (g : D → D → Option D) : Prop where
  ex : ∃ r : R2, OpR X (compareOp op) r ∧ OpS c r g
theorem o_lt : Ord1 X c .Lt ltD := ⟨_, op_lt, iop_sound fun _ _ _ _ => rel_bl⟩
theorem o_le : Ord1 X c .LtE leD := ⟨_, op_le, iop_sound fun _ _ _ _ => rel_bl⟩
theorem o_gt : Ord1 X c .Gt gtD := ⟨_, op_gt, iop_sound fun _ _ _ _ => rel_bl⟩
theorem o_ge : Ord1 X c .GtE geD := ⟨_, op_ge, iop_sound fun _ _ _ _ => rel_bl⟩
theorem t_chn {op op' : CmpOp} {g g' : D → D → Option D} (o1 : Ord1 X c op g) (o2 : Ord1 X c op' g') (ha : Tr X c a f1) (hb : Tr X c b f2) (hd : Tr X c d f3) (hm : lastMarks [op, op'] [b, d] = false := by with_unfolding_all rfl) : Tr X c (.Compare a [op, op'] [b, d] pos) (chn g g' f1 f2 f3) := by
  obtain ⟨r, h1, h2⟩ := o1.ex
  obtain ⟨r', h3, h4⟩ := o2.ex
  exact t_chain h1 h3 h2 h4 ha hb hd hm
theorem tt_chn {op op' : CmpOp} {g g' : D → D → Option D} (o1 : Ord1 X c op g) (o2 : Ord1 X c op' g') (ha : Tr X c a f1) (hb : Tr X c b f2) (hd : Tr X c d f3) (hm : lastMarks [op, op'] [b, d] = false := by with_unfolding_all rfl) : TrT X c (.Compare a [op, op'] [b, d] pos) (tst (chn g g' f1 f2 f3)) := by
  obtain ⟨r, h1, h2⟩ := o1.ex
  obtain ⟨r', h3, h4⟩ := o2.ex
  exact tt_chain h1 h3 h2 h4 ha hb hd hm
end
end Y
end

section
set_option Elab.async false
set_option linter.all false
set_option maxRecDepth 100000
set_option maxHeartbeats 4000000
/-! Y15: defs that no closure reaches; tables of defs with lambdas. -/
namespace Y
open PySem PySem.Spec PyProof.Rows L2
/-- handed nothing but plain data, it gives nothing but plain data -/
def nk0 (den : List D → Rt) : List D → Rt := fun ds => if D.nks ds then (match den ds with
  | .ok d ps => if d.nk && ps.all nkU then .ok d ps else .bad
  | .ex n d => if d.nk then .ex n d else .bad
  | .bad => .bad) else .bad
section
variable {P : Program} {w : World} {K : PySem.W.Frag} {mg : Str → Option Value} {base : Heap} {T T' : List (Addr × Str)} {LC k : Nat} {f : Addr} {fd : FuncData} {den : List D → Rt}
theorem FnY.at (h : T' = T) (G : FnY P w K mg base T LC k f den) : FnY P w K mg base T' LC k f den := by
  rw [h]
  exact G
/-- the same promise where no closure is in sight -/
theorem spY_none {c c' : Ctx} {vs : List V} {H : Hp} {Q : VK} {E : XK} (hK : c'.K = c.K) (hM : c'.mg = c.mg) (hF : c'.FB = c.FB) (hT : ∀ H, Tb c H ↔ Tb c' H) (h : spY c (nk0 den) vs H Q E) : spY c' den vs H Q E := by
  obtain ⟨F, ds, A, fin, hFB, rds, nd, hm⟩ := h
  unfold nk0 at hm
  by_cases hn : D.nks ds = true
  · rw [if_pos hn] at hm
    refine ⟨F, ds, A, ⟨fin.ex, fin.nt, (hT _).mp fin.tb⟩, by rw [hF]; exact hFB, Rels.ctx hK rds hn, nd, ?_⟩
    cases e : den ds with
    | bad => rw [e] at hm; exact hm
    | ex n d =>
      rw [e] at hm
      dsimp only at hm
      by_cases hd : d.nk = true
      · rw [if_pos hd] at hm
        intro cv dx F' H' go fin' x
        exact hm cv dx F' H' go ⟨fin'.ex, fin'.nt, (hT _).mpr fin'.tb⟩ (x.ctx hK.symm hM.symm hd)
      · rw [if_neg hd] at hm
        exact hm.elim
    | ok d ps =>
      rw [e] at hm
      dsimp only at hm
      by_cases hd : (d.nk && ps.all nkU) = true
      · rw [if_pos hd] at hm
        rw [Bool.and_eq_true] at hd
        intro v F' H' B B' go fin' rr sl nd'
        exact hm v F' H' B B' go ⟨fin'.ex, fin'.nt, (hT _).mpr fin'.tb⟩ (Rel.ctx hK.symm rr hd.1) (Slots.ctxN hK.symm sl hd.2) nd'
      · rw [if_neg hd] at hm
        exact hm.elim
  · rw [if_neg hn] at hm
    exact hm.elim
/-- THE RULE for a def without closure parameters -/
theorem fnA_of0 {x qual : Str} {st : Stmt} {N ps : List Str} {fx : Nat → Bool} {body : SDen} (Fn : Fun K x qual st f fd) (S : FnScope N ps (defScope st))
    (hbody : ∀ (c : Ctx) (A : Around) (outer : List Env) (s : Shared) (H : Hp) (E : XK), c.K = K → c.mg = mg → c.T = T → c.fx = fx → Room k (A.deeper (envOfC qual (defScope st) s.heap.objs.size f fd.code)) → c.G = (fun _ => none) →
      Tss (cxOf (L2N.CX P w) P w K mg base N qual (defScope st) f fd.code A outer s H E) c (defBody st) body) : FnA P w K mg base T LC (k + 1) f fd ps (nk0 (fnD ps.length N.length fx body)) := by
  refine ⟨fun c0 A outer s H args us vs Q E hK hM hT hr e0 hG hbb r hsp => ?_⟩
  have hsp' : spY { c0 with G := fun _ => none } (fnD ps.length N.length fx body) vs H Q E := spY_none (c := c0) (c' := { c0 with G := fun _ => none }) rfl rfl rfl (fun H => ⟨fun h => ⟨h.tabs, h.code⟩, fun h => ⟨h.tabs, h.code⟩⟩) hsp
  exact fn_core (LC := LC) Fn S { c0 with G := fun _ => none } (fun c A outer s H E h1 h2 h3 h4 h5 h6 _ => hbody c A outer s H E h2 h3 h4 h5 h6 h1) A outer s H args us vs Q E hK hM hT hr e0 (fun f r z => by cases z) hbb r hsp'
/-- a def's promise, whatever its denotation is written as -/
theorem FnA.y' {ps : List Str} (h : FnA P w K mg base T LC k f fd ps den) (hl : ∀ ds r, den ds = r → ds.length ≠ ps.length → r = .bad) (hb : Binds K fd ps []) : FnY P w K mg base T LC k f den := by
  refine ⟨fun c A outer s H us vs Q E hK hM hT hr e0 hG r hsp => ?_⟩
  have KX : K.In s.heap := e0.mod.kin.keeps fun b o e => (e0.bs b o e).1
  have lv : vs.length = ps.length := by
    obtain ⟨F, ds, A0, fin, hFB, rds, nd, hm⟩ := hsp
    rw [rds.length]
    by_cases z : ds.length = ps.length
    · exact z
    · rw [hl ds _ rfl z] at hm
      exact hm.elim
  have hl : us.length = ps.length := by rw [← r.length]; exact lv
  have hbb := hb s us KX (by rw [List.append_nil]; exact hl)
  rw [List.append_nil] at hbb
  exact h.run c A outer s H ⟨us, []⟩ us vs Q E hK hM hT hr e0 hG hbb r hsp
theorem FnA.y0 {ps : List Str} {fx : Nat → Bool} {n : Nat} {body : SDen} (h : FnA P w K mg base T LC k f fd ps (nk0 (fnD ps.length n fx body))) (hb : Binds K fd ps []) : FnY P w K mg base T LC k f (nk0 (fnD ps.length n fx body)) :=
  h.y' (fun ds r e hn => by
    subst e
    unfold nk0 fnD
    rw [if_neg hn]
    split <;> rfl) hb
/-! ### defs that hold lambdas -/
def qtab (K : PySem.W.Frag) (p : He.Defn) : Addr × Str := ((He.cT K p).2, p.1 ++ ".<locals>." ++ "<lambda>")
theorem qtab_mem {tf : List He.Defn} {p : He.Defn} (h : p ∈ tf) : ((He.cT K p).2, p.1 ++ ".<locals>." ++ "<lambda>") ∈ tf.map (qtab K) := List.mem_map.mpr ⟨p, h, rfl⟩
theorem qtab_one : ∀ {tf : List He.Defn} {p : He.Defn}, (tf.map fun p => (He.cT K p).2).Nodup → p ∈ tf → ∀ q ∈ tf.map (qtab K), q.1 = (He.cT K p).2 → q.2 = p.1 ++ ".<locals>." ++ "<lambda>"
  | [], p, nd, hp, q, hq, e => by cases hp
  | a :: tf, p, nd, hp, q, hq, e => by
    rw [List.map_cons, List.nodup_cons] at nd
    have one : ∀ {x y : He.Defn}, x ∈ tf → (He.cT K x).2 = (He.cT K a).2 → False := fun {x y} hx e => nd.1 (List.mem_map.mpr ⟨x, hx, e⟩)
    rw [List.map_cons] at hq
    rcases List.mem_cons.mp hp with rfl | hp'
    · rcases List.mem_cons.mp hq with rfl | hq
      · rfl
      · obtain ⟨x, hx, rfl⟩ := List.mem_map.mp hq
        exact (one (y := x) hx e).elim
    · rcases List.mem_cons.mp hq with rfl | hq
      · exact (one (y := p) hp' e.symm).elim
      · exact qtab_one nd.2 hp' q hq e
end
end Y
end

section
set_option Elab.async false
set_option linter.all false
set_option maxRecDepth 100000
set_option maxHeartbeats 4000000
/-! YH: walks where an error is handled. -/
namespace Y
open PySem PySem.Spec PyProof.Rows L2 HotX
section
variable {prog : Program} {w : World} {A : Around} {E : Value → Shared → Prop} {s : Shared}
theorem list_end_hot {it l x1 : Addr} {i : Nat} {its : Array Value} {Q : Option Value → Shared → Prop} (hot : HotAt A x1 s.heap) (nx : x1 ≠ it) (hit : s.heap.IsListIter it l i) (hl : s.heap.IsList l its) (hx : its[i]? = none)
    (hQ : ∀ h', (∀ b o, b ≠ it → s.heap.get? b = some o → h'.get? b = some o) → Q none { s with heap := h' }) : wpAny (model prog w) A (pyNext (.ref it)) Q E s := by
  obtain ⟨o, ho, hc, hd⟩ := id hit
  obtain ⟨ol, hol, _, nl, hdl⟩ := hl
  obtain ⟨hh, o1, vs1, h1, d1, c1⟩ := hot
  unfold pyNext
  refine wpAny_bind (wpAny_attempt (wpAny_callSpecial?_slot (name := Str.ofString "__next__") hit.typeIs slot_listiter_next
    (wpAny_call_entry slot_listiter_next hit.typeIs entry_listiter_next ?_ (args_listiter_next _))))
  show wpAny _ _ (field (.ref it) 0 >>= _) _ _ s
  refine wpAny_bind (wpAny_field ho hd (x := .ref l) rfl ?_)
  show wpAny _ _ (if (Value.ref l == Value.none) = true then _ else _) _ _ s
  rw [if_neg (show ¬ ((Value.ref l == Value.none) = true) from Bool.false_ne_true)]
  show wpAny _ _ (field (.ref it) 1 >>= _) _ _ s
  refine wpAny_bind (wpAny_field ho hd (x := .int i 0) rfl ?_)
  show wpAny _ _ (seqItems? (.ref l) >>= _) _ _ s
  refine wpAny_bind (wpAny_seqItems hol hdl ?_)
  simp only [Int.toNat_natCast, hx]
  refine wpAny_bind (wpAny_rule (wpAny_bind (wpAny_setField ho hd (by simp) ?_)))
  show wpAny _ _ (newExc (.type "StopIteration") [] >>= _) _ _ _
  refine wpAny_bind ?_
  simp only [newExc, newTuple]
  refine wpAny_bind (wpAny_newObj_type ?_ (by size_fits))
  refine wpAny_bind (m := firstArgMember _ _) (wpAny_of_eq (a := Value.none) (by first | rfl | (simp only [firstArgMember]; rfl)) ?_)
  refine wpAny_newObj_type ?_ (by size_fits)
  have g1 := (Heap.get?_update_other s.heap (Obj.mapFields (·.setIfInBounds 0 Value.none)) (Ne.symm nx)).trans h1
  refine raiseNew_hot ⟨hh, o1, vs1, Heap.get?_push_of_some _ (Heap.get?_push_of_some _ g1), d1, c1⟩ (Nat.ne_of_lt (Heap.lt_size (Heap.get?_push_of_some _ g1))) (Heap.get?_push_size _ rfl) rfl (by first | (simp; done) | (simp; omega) | (simp only [Array.size_append]; simp; omega)) ?_
  refine wpAny_bind (wpAny_isInstance (T := "StopIteration") (b := true) ⟨_, Heap.get?_update_self _ (Heap.get?_push_size _ rfl) rfl, rfl⟩ isSubtype_stop ?_)
  refine wpAny_pure (hQ _ fun b u hb e => ?_)
  have g2 := (Heap.get?_update_other s.heap (Obj.mapFields (·.setIfInBounds 0 Value.none)) (Ne.symm hb)).trans e
  rw [Heap.get?_update_other _ _ (Nat.ne_of_gt (Heap.lt_size (Heap.get?_push_of_some _ g2)))]
  exact Heap.get?_push_of_some _ (Heap.get?_push_of_some _ g2)
end
/-- as Base's Turn, where an error is handled: x1, whose own context is None -/
structure TurnY (P : Program) (w : World) (K : PySem.W.Frag) (tg : Expr) (J : It) (fp : List Addr) (it : Addr) (tn : Nat → Heap → Prop) : Prop where
  mem : it ∈ fp
  obj : ∀ i h, tn i h → ∀ b ∈ fp, ∃ o, h.get? b = some o ∧ ∀ v, o.data ≠ .cell v
  keep : ∀ i h h', tn i h → (∀ b ∈ fp, ∀ o, h.get? b = some o → h'.get? b = some o) → tn i h'
  item : ∀ (X : Cx), X.prog = P → X.w = w → X.K = K → ∀ (i : Nat) (pins : List (Addr × Obj)) (s : Shared) (σ : L2.St) (H : Hp) (E : Value → Shared → Prop), Inv X pins σ H s → (∀ b ∈ fp, FpOk X pins H b) → tn i s.heap → J.go i H →
    wpAny (model P w) X.A (pyNext (.ref it)) (fun r s1 => ∃ u, r = some u ∧
      wpAny (model P w) X.A (letOwnedTupleGo tg (.ref it) u) (fun _ s2 => ∃ x H', Inv X pins σ H' s2 ∧ RelV x u ∧ J.yld i H x H' ∧ tn (i + 1) s2.heap ∧ ∀ b ∈ fp, H' b = none) E s1) E s
  done : ∀ (X : Cx), X.prog = P → X.w = w → X.K = K → ∀ (i : Nat) (pins : List (Addr × Obj)) (s : Shared) (σ : L2.St) (H : Hp) (E : Value → Shared → Prop) (x1 : Addr), HotAt X.A x1 s.heap → x1 ∉ fp → Inv X pins σ H s → (∀ b ∈ fp, FpOk X pins H b) → tn i s.heap → J.stop i H →
    wpAny (model P w) X.A (pyNext (.ref it)) (fun r s1 => r = none ∧ Inv X pins σ H s1) E s
  self : ∀ (A : Around) (i : Nat) (s : Shared) (Q : Value → Shared → Prop) (E : Value → Shared → Prop), tn i s.heap → Q (.ref it) s → wpAny (model P w) A (pyIter (.ref it)) Q E s
theorem turn_listY {P : Program} {w : World} {K : PySem.W.Frag} {tg : Expr} (a it : Addr) : TurnY P w K tg (Itl K a) [it] it (fun i h => h.IsListIter it a i) where
  mem := by simp
  obj := (turn_list (P := P) (w := w) (K := K) (tg := tg) a it).obj
  keep := (turn_list (P := P) (w := w) (K := K) (tg := tg) a it).keep
  self := (turn_list (P := P) (w := w) (K := K) (tg := tg) a it).self
  item := by
    intro X e1 e2 e3 i pins s σ H E I hf st hg
    subst e1 e2 e3
    obtain ⟨xs, x, hq, hx⟩ := hg
    obtain ⟨its, rv, p, hz⟩ := I.list hq
    obtain ⟨u, hu, ru⟩ := rv.get hx
    obtain ⟨f0, f1, f2, f3, f4, f5⟩ := hf it (by simp)
    refine wpAny_pyNext_list_item st p.isList (x := u) (by simpa using hu) fun h' st' sb => ?_
    have I1 : Inv X pins σ H { s with heap := h' } := I.turned (t' := s.toks) (fun b o hb e => (sb.2 b hb).trans e) f0 f1 f3 f4 f5
    obtain ⟨o, e, c, d⟩ := id st'
    exact ⟨u, rfl, go_of (s := { s with heap := h' }) e c d (by decide) ⟨x, H, I1, ru, ⟨rfl, fun ys hy => by rw [I.list_inj hy hq]; exact hx⟩, st', fun b hb => (hf b hb).1⟩⟩
  done := by
    intro X e1 e2 e3 i pins s σ H E x1 hot nx I hf st hg
    subst e1 e2 e3
    obtain ⟨xs, hq, hx⟩ := hg
    obtain ⟨its, rv, p, hz⟩ := I.list hq
    obtain ⟨f0, f1, f2, f3, f4, f5⟩ := hf it (by simp)
    have hl := rv.length
    exact list_end_hot hot (by simpa using nx) st p.isList (by simp; omega) fun h' eb => ⟨rfl, I.turned (t' := s.toks) (fun b o hb e => eb b o hb e) f0 f1 f3 f4 f5⟩
end Y
end

section
set_option Elab.async false
set_option linter.all false
set_option maxRecDepth 100000
set_option maxHeartbeats 4000000
/-! YH2: comprehensions where an error is handled. -/
namespace Y
open PySem PySem.Spec PyProof.Rows L2 HotX
section
variable {prog : Program} {w : World} {A : Around} {E : Value → Shared → Prop} {s : Shared}
theorem tuple_end_hot {it t x1 : Addr} {i : Nat} {items : Array Value} {Q : Option Value → Shared → Prop} (hot : HotAt A x1 s.heap) (nx : x1 ≠ it) (hit : IsTupIter s.heap it t i) (ht : IsTup s.heap t items) (hx : items[i]? = none)
    (hQ : ∀ h', (∀ b o, b ≠ it → s.heap.get? b = some o → h'.get? b = some o) → Q none { s with heap := h' }) : wpAny (model prog w) A (pyNext (.ref it)) Q E s := by
  obtain ⟨o, ho, hc, hd⟩ := id hit
  obtain ⟨ol, hol, _, nl, hdl⟩ := ht
  obtain ⟨hh, o1, vs1, h1, d1, c1⟩ := hot
  unfold pyNext
  refine wpAny_bind (wpAny_attempt (wpAny_callSpecial?_slot (name := Str.ofString "__next__") hit.typeIs slot_tupleiter_next
    (wpAny_call_entry slot_tupleiter_next hit.typeIs entry_tupleiter_next ?_ (args_tupleiter_next _))))
  show wpAny _ _ (field (.ref it) 0 >>= _) _ _ s
  refine wpAny_bind (wpAny_field ho hd (x := .ref t) rfl ?_)
  show wpAny _ _ (if (Value.ref t == Value.none) = true then _ else _) _ _ s
  rw [if_neg (show ¬ ((Value.ref t == Value.none) = true) from Bool.false_ne_true)]
  show wpAny _ _ (field (.ref it) 1 >>= _) _ _ s
  refine wpAny_bind (wpAny_field ho hd (x := .int i 0) rfl ?_)
  show wpAny _ _ (seqItems? (.ref t) >>= _) _ _ s
  refine wpAny_bind (wpAny_seqItems hol hdl ?_)
  simp only [Int.toNat_natCast, hx]
  refine wpAny_bind (wpAny_rule (wpAny_bind (wpAny_setField ho hd (by simp) ?_)))
  show wpAny _ _ (newExc (.type "StopIteration") [] >>= _) _ _ _
  refine wpAny_bind ?_
  simp only [newExc, newTuple]
  refine wpAny_bind (wpAny_newObj_type ?_ (by size_fits))
  refine wpAny_bind (m := firstArgMember _ _) (wpAny_of_eq (a := Value.none) (by first | rfl | (simp only [firstArgMember]; rfl)) ?_)
  refine wpAny_newObj_type ?_ (by size_fits)
  have g1 := (Heap.get?_update_other s.heap (Obj.mapFields (·.setIfInBounds 0 Value.none)) (Ne.symm nx)).trans h1
  refine raiseNew_hot ⟨hh, o1, vs1, Heap.get?_push_of_some _ (Heap.get?_push_of_some _ g1), d1, c1⟩ (Nat.ne_of_lt (Heap.lt_size (Heap.get?_push_of_some _ g1))) (Heap.get?_push_size _ rfl) rfl (by first | (simp; done) | (simp; omega) | (simp only [Array.size_append]; simp; omega)) ?_
  refine wpAny_bind (wpAny_isInstance (T := "StopIteration") (b := true) ⟨_, Heap.get?_update_self _ (Heap.get?_push_size _ rfl) rfl, rfl⟩ isSubtype_stop ?_)
  refine wpAny_pure (hQ _ fun b u hb e => ?_)
  have g2 := (Heap.get?_update_other s.heap (Obj.mapFields (·.setIfInBounds 0 Value.none)) (Ne.symm hb)).trans e
  rw [Heap.get?_update_other _ _ (Nat.ne_of_gt (Heap.lt_size (Heap.get?_push_of_some _ g2)))]
  exact Heap.get?_push_of_some _ (Heap.get?_push_of_some _ g2)
theorem hot_keep {x1 : Addr} {h h' : Heap} (hot : HotAt A x1 h) (k : ∀ o, h.get? x1 = some o → h'.get? x1 = some o) : HotAt A x1 h' :=
  let ⟨hh, o1, vs1, h1, d1, c1⟩ := hot
  ⟨hh, o1, vs1, k o1 h1, d1, c1⟩
theorem hot_lt {x1 : Addr} {h : Heap} (hot : HotAt A x1 h) : x1 < h.objs.size :=
  let ⟨_, o1, _, h1, _, _⟩ := hot
  Heap.lt_size h1
theorem unpackItems_hot {t x1 : Addr} {items : Array Value} {Q : List Value → Shared → Prop} (hot : HotAt A x1 s.heap) (ht : IsTup s.heap t items)
    (hQ : ∀ h', Heap.ExtBut s.heap.objs.size s.heap h' → Q items.toList { s with heap := h' }) : wpAny (model prog w) A (unpackItems (.ref t) items.size none) Q E s := by
  have hlt : t ≠ s.heap.objs.size := by obtain ⟨o, ho, _⟩ := ht; exact Nat.ne_of_lt (Heap.lt_size ho)
  have hlx : x1 ≠ s.heap.objs.size := Nat.ne_of_lt (hot_lt hot)
  unfold unpackItems
  refine wpAny_bind ?_
  · unfold notIterableAtAll
    refine wpAny_bind (wpAny_specialOf ht.typeIs slot_tuple_iter.lookup ?_)
    refine wpAny_pure ?_
    simp only [Bool.false_eq_true, if_false]
    refine wpAny_bind (wpAny_holding (iter_tuple ht ?_))
    refine wpAny_bind (wpAny_holding (draw_tuple hlt items.size 0 _ _ ⟨_, Heap.get?_push_size _ rfl, rfl, rfl⟩ (ht.push _) (by omega) fun h₁ hit₁ hs₁ => ?_))
    have hall : List.take items.size (List.drop 0 items.toList) = items.toList := by
      rw [List.drop_zero]; exact List.take_of_length_le (by simp)
    rw [hall]
    rw [if_neg (by simp)]
    have ht₁ : IsTup h₁ t items := (ht.push _).extBut hs₁.extBut hlt
    have hot₁ : HotAt A x1 h₁ := hot_keep hot fun o e => hs₁.extBut x1 o hlx (Heap.get?_push_of_some _ e)
    refine wpAny_bind (wpAny_holding (tuple_end_hot (s := { s with heap := h₁ }) hot₁ hlx hit₁ ht₁ (by simp) fun h₂ he₂ => ?_))
    simp only [Option.isSome_none, Bool.false_eq_true, if_false]
    refine wpAny_pure (hQ h₂ fun b o hb e => he₂ b o hb (hs₁.extBut b o hb (Heap.get?_push_of_some _ e)))
theorem assign_tup_hot {env : Env} {elts : List Expr} {k1} {pos : Pos} {t x1 : Addr} {items : Array Value} {Q : Unit → Shared → Prop} (hot : HotAt A x1 s.heap) (ht : IsTup s.heap t items)
    (hn : (assignEach elts env).length = items.size) (hstar : (assignEach elts env).findIdx? (·.1) = none)
    (h : ∀ h', Heap.ExtBut s.heap.objs.size s.heap h' → wpAny (model prog w) A (assignInOrder ((assignEach elts env).map (·.2)) items.toList) Q E { s with heap := h' }) :
    wpAny (model prog w) A (assign (.Tuple elts k1 pos) env (.ref t)) Q E s := by
  rw [assign_Tuple]
  refine wpAny_bind (wpAny_standAt ?_)
  unfold unpack
  rw [hn, hstar]
  exact wpAny_bind (wpAny_holding (unpackItems_hot hot ht h))
end
theorem pg_tupY {X : Cx} {pos : Pos} {es : List Expr} {k : Nat} {t : TGs} {n : Nat} (hc : L2H.HotC X) (h : PGs X es t)
    (hn : (assignEach es X.env).length = n := by rfl) (hst : (assignEach es X.env).findIdx? (·.1) = none := by rfl) : PG X (.Tuple es k pos) (gTup X.K n t) := by
  refine ⟨fun pins s σ H v u Q I r hw => ?_⟩
  obtain ⟨a, xs, e1, hq, hl, hw⟩ := hw
  subst e1
  cases r
  obtain ⟨its, rv, ht, hz⟩ := I.tuple hq
  obtain ⟨x1, hot⟩ := hc.at I
  refine assign_tup_hot hot ht (by simp [hn, ← hl, rv.length]) hst fun h' hx => ?_
  have I1 : Inv X pins σ H { s with heap := h' } := I.kept (t' := s.toks) fun b o e => hx b o (Nat.ne_of_lt (Heap.lt_size e)) e
  exact h.run pins _ σ H xs _ Q I1 (by simpa using rv) hw
theorem turn_tupY {P : Program} {w : World} {K : PySem.W.Frag} {tg : Expr} (a it : Addr) : TurnY P w K tg (Itt K a) [it] it (fun i h => h.IsTupleIter it a i) where
  mem := by simp
  obj := (turn_tuple (P := P) (w := w) (K := K) (tg := tg) a it).obj
  keep := (turn_tuple (P := P) (w := w) (K := K) (tg := tg) a it).keep
  self := (turn_tuple (P := P) (w := w) (K := K) (tg := tg) a it).self
  item := by
    intro X e1 e2 e3 i pins s σ H E I hf st hg
    subst e1 e2 e3
    obtain ⟨xs, x, hq, hx⟩ := hg
    obtain ⟨its, rv, p, hz⟩ := I.tuple hq
    obtain ⟨u, hu, ru⟩ := rv.get hx
    obtain ⟨f0, f1, f2, f3, f4, f5⟩ := hf it (by simp)
    refine wpAny_pyNext_tuple_item st (show s.heap.IsTuple a its.toArray from p) (x := u) (by simpa using hu) fun h' st' sb => ?_
    have I1 : Inv X pins σ H { s with heap := h' } := I.turned (t' := s.toks) (fun b o hb e => (sb.2 b hb).trans e) f0 f1 f3 f4 f5
    obtain ⟨o, e, c, d⟩ := id st'
    exact ⟨u, rfl, go_of (s := { s with heap := h' }) e c d (by decide) ⟨x, H, I1, ru, ⟨rfl, fun ys hy => by rw [I.tuple_inj hy hq]; exact hx⟩, st', fun b hb => (hf b hb).1⟩⟩
  done := by
    intro X e1 e2 e3 i pins s σ H E x1 hot nx I hf st hg
    subst e1 e2 e3
    obtain ⟨xs, hq, hx⟩ := hg
    obtain ⟨its, rv, p, hz⟩ := I.tuple hq
    obtain ⟨f0, f1, f2, f3, f4, f5⟩ := hf it (by simp)
    have hl := rv.length
    exact tuple_end_hot hot (by simpa using nx) st (show IsTup s.heap a its.toArray from p) (by simp; omega) fun h' eb => ⟨rfl, I.turned (t' := s.toks) (fun b o hb e => eb b o hb e) f0 f1 f3 f4 f5⟩
/-- an iterator has come, where an error is handled -/
def PIEY (X : Cx) (pins : List (Addr × Obj)) (σ : L2.St) (tg : Expr) (R : It → Hp → Prop) (itv : Value) (s2 : Shared) : Prop :=
  ∃ (it : Addr) (fp : List Addr) (tn : Nat → Heap → Prop) (J : It) (H' : Hp), itv = .ref it ∧ Inv X pins σ H' s2 ∧ TurnY X.prog X.w X.K tg J fp it tn ∧ tn 0 s2.heap ∧ (∀ b ∈ fp, FpOk X pins H' b) ∧ R J H'
structure PIY (X : Cx) (tg iter : Expr) (wi : TI) : Prop where
  run : ∀ (pins : List (Addr × Obj)) (s : Shared) (σ : L2.St) (H : Hp) (R : It → Hp → Prop), Inv X pins σ H s → wi σ H R →
    wpAny (model X.prog X.w) X.A (eval iter X.env) (fun v s1 => wpAny (model X.prog X.w) X.A (pyIter v) (PIEY X pins σ tg R) X.xe s1) X.xe s
theorem pi_seqY {X : Cx} {tg l : Expr} {tl : TE} (hl : PE X l tl) : PIY X tg l (fun σ H R => tl σ H fun x H1 => ∃ a, x = .ref a ∧ (((∃ xs, SqL X.K H1 a xs) ∧ R (Itl X.K a) H1) ∨ ((∃ xs, SqT X.K H1 a xs) ∧ R (Itt X.K a) H1))) := by
  refine ⟨fun pins s σ H R I h => ?_⟩
  refine thn (hl.run pins s σ H _ I h) fun v s1 ⟨x, H1, I1, r1, q1⟩ => ?_
  obtain ⟨a, e, q⟩ := q1
  subst e
  cases r1
  have fp : ∀ b ∈ [s1.heap.objs.size], FpOk X pins H1 b := fun b hb => by
    have e : b = s1.heap.objs.size := by simpa using hb
    rw [e]
    exact I1.fpOk (Nat.le_refl _) (I1.hok.fresh (Nat.le_refl _))
  rcases q with ⟨⟨xs, hq⟩, q⟩ | ⟨⟨xs, hq⟩, q⟩
  · obtain ⟨its, rv, p, hz⟩ := I1.list hq
    refine wpAny_pyIter_list p.isList ?_
    exact ⟨s1.heap.objs.size, [s1.heap.objs.size], _, _, H1, rfl, I1.kept (t' := s1.toks) fun b o e => Heap.get?_push_of_some _ e, turn_listY a _, ⟨_, Heap.get?_push_size _ rfl, rfl, rfl⟩, fp, q⟩
  · obtain ⟨its, rv, p, hz⟩ := I1.tuple hq
    refine wpAny_pyIter_tuple p ?_
    exact ⟨s1.heap.objs.size, [s1.heap.objs.size], _, _, H1, rfl, I1.kept (t' := s1.toks) fun b o e => Heap.get?_push_of_some _ e, turn_tupY a _, ⟨_, Heap.get?_push_size _ rfl, rfl, rfl⟩, fp, q⟩
/-- the block's context, the handled error kept in sight -/
abbrev blkY (X : Cx) (s : Shared) (H : Hp) (scope : Scope) (cenv : Env) (fp : List Addr) : Cx := { X.blk s H scope cenv fp with pn := X.pn }
theorem Inv.blkY {X : Cx} {pins : List (Addr × Obj)} {σ σ' : L2.St} {H : Hp} {s s' : Shared} {scope : Scope} {cenv : Env} {fp : List Addr} (I : Inv X pins σ H s) (hL : s.heap.objs.size ≤ cenv.locals) (I4 : Inv (X.blk s H scope cenv fp) [] σ' H s') (k : ∀ b o, s.heap.get? b = some o → s'.heap.get? b = some o) :
    Inv (blkY X s H scope cenv fp) [] σ' H s' := by
  have pn : ∀ p ∈ X.pn, s'.heap.get? p.1 = some p.2 ∧ H p.1 = none ∧ p.1 ≠ cenv.locals ∧ p.1 ∉ frs X.stack ∧ ∀ v, p.2.data ≠ .cell v := fun p hp => by
    obtain ⟨h1, h2, h3, h4, h5⟩ := I.pin p (List.mem_append_left _ hp)
    exact ⟨k _ _ h1, h2, Nat.ne_of_lt (Nat.lt_of_lt_of_le (Heap.lt_size h1) hL), fun z => (List.mem_cons.mp (I.stkSub _ z)).elim h3 h4, h5⟩
  exact { ok := { I4.ok with }, os := I4.os, bare := I4.bare, base := I4.base, loc := I4.loc, cell := I4.cell, free := I4.free, freeC := I4.freeC, pin := fun p hp => (List.mem_append.mp hp).elim (pn p) (fun z => by cases z), hok := I4.hok, len := I4.len }
section
variable {X : Cx}
theorem lc_coreY {pins : List (Addr × Obj)} {s : Shared} {σ : L2.St} {H : Hp} {Q : VK} {elt tg iter : Expr} {ifs : List Expr} {scope : Scope} {own : List (Str × Nat)} {pos pos' : Pos} {wi : TI} {g : TG} {tt : TT} {te : TE} {use : Option (Value → Sem Unit)} {Qf : Value → Shared → Prop}
    (hc : L2H.HotC X) (hN : X.N.Nodup) (I : Inv X pins σ H s) (hi : PIY X tg iter wi) (ok : BlkOk X.N X.env.scope scope own)
    (hg : ∀ (s : Shared) (H : Hp) (C : Addr) (cl : List (Str × Addr)) (fp : List Addr), PG (blkY X s H scope (compEnvC scope cl C X.env) fp) tg g) (ht : ∀ (s : Shared) (H : Hp) (C : Addr) (cl : List (Str × Addr)) (fp : List Addr), PTs (blkY X s H scope (compEnvC scope cl C X.env) fp) ifs tt)
    (he : ∀ (s : Shared) (H : Hp) (C : Addr) (cl : List (Str × Addr)) (fp : List Addr), PE (blkY X s H scope (compEnvC scope cl C X.env) fp) elt te) (hs : ∀ x, foldedSetIterable iter X.env x = pure x)
    (h : tLc wi g tt te (own.map (·.2)) σ H Q)
    (hRR : ∀ D C s' m H', Inv X pins σ H' s' → Q (.ref D) H' → s'.heap.Ns C m → FpOk X pins H' C → compPost (model X.prog X.w) X.A X.xe use Qf (.ref D) C (.ok .next) s') :
    wpAny (model X.prog X.w) X.A (comprehension (.ListComp elt [⟨tg, iter, ifs, 0⟩] scope pos) scope X.env pos' (newList []) false (eval iter X.env) use) Qf X.xe s := by
  have hfree : ∀ y ∈ scope.names, y.2 = .free → ∃ c, X.env.cells.lookup y.1 = some c := fun y hy e => by
    rcases ok.free y hy e with k | k
    · exact I.ok.has _ (.inl k)
    · exact I.ok.has _ (.inr k)
  refine wpAny_comprehension_free (use := use) rfl hs (closure_ok hfree) ok.kind (fun y hy e => by rw [ok.uniq y hy, e])
    (thn (hi.run pins s σ H _ I h) fun xv s1 hx => thn hx fun itv s2 h2 => ?_)
  obtain ⟨it, fp, tn, J, H2, e, I2, T, st2, f2, q⟩ := h2
  subst e
  refine wpAny_newObj_type (newEnv_comp ?_) (by show 0 ≤ sizeLine; decide)
  generalize hD : s2.heap.objs.size = D
  have hDn : H2 D = none := I2.hok.fresh (Nat.le_of_eq hD)
  obtain ⟨W, ⟨m0, w0⟩, turn⟩ := q D hDn
  -- the new list
  generalize hs3 : ({ s2 with heap := s2.heap.push { cls := .type "list", data := .seq ([] : List Value).toArray } } : Shared) = s3
  have I3 : Inv X pins σ (upd H2 D (.lst [])) s3 := by
    rw [← hs3]
    refine I2.laid (t' := s2.toks) (fun b o e => Heap.get?_push_of_some _ e) (Nat.le_of_eq hD) ⟨Nat.zero_le _, [], 0, .nil, ?_⟩
    rw [← hD]
    exact Heap.get?_push_size _ rfl
  have h3 : s3.heap = s2.heap.push { cls := .type "list", data := .seq ([] : List Value).toArray } := by rw [← hs3]
  have sz : ∀ b ∈ fp, b < s2.heap.objs.size := fun b hb => by
    obtain ⟨o, e, _⟩ := T.obj _ _ st2 b hb
    exact Heap.lt_size e
  have f3 : ∀ b ∈ fp, FpOk X pins (upd H2 D (.lst [])) b ∧ b < s3.heap.objs.size := fun b hb => by
    have hlt := sz b hb
    refine ⟨⟨?_, (f2 b hb).2⟩, by rw [h3, Heap.size_push]; exact Nat.lt_succ_of_lt hlt⟩
    rw [upd_ne (by rw [← hD]; exact Nat.ne_of_lt hlt)]
    exact (f2 b hb).1
  have st3 : tn 0 s3.heap := T.keep _ _ _ st2 fun b _ o e => by rw [h3]; exact Heap.get?_push_of_some _ e
  have I4 := block_start I3 ok hN f3
  have pg := hg s3 (upd H2 D (.lst [])) s3.heap.objs.size (cellsFrom (s3.heap.objs.size + 1) scope.names (cloFrom X.env.cells scope.names [])) fp
  have pt := ht s3 (upd H2 D (.lst [])) s3.heap.objs.size (cellsFrom (s3.heap.objs.size + 1) scope.names (cloFrom X.env.cells scope.names [])) fp
  have pe := he s3 (upd H2 D (.lst [])) s3.heap.objs.size (cellsFrom (s3.heap.objs.size + 1) scope.names (cloFrom X.env.cells scope.names [])) fp
  show codeAny _ _ (.compStart (.ListComp elt [⟨tg, iter, ifs, 0⟩] scope pos) 0 (.ref it) (.ref D) (compEnvC scope (cellsFrom (s3.heap.objs.size + 1) scope.names (cloFrom X.env.cells scope.names [])) s3.heap.objs.size X.env)) (compPost (model X.prog X.w) X.A X.xe use Qf (.ref D) s3.heap.objs.size) { s3 with heap := pushCells (s3.heap.push { cls := .type "dict", data := .dict #[] }) scope.names }
  have nfp : ∀ b ∈ fp, (upd H2 D (.lst [])) b = none := fun b hb => (f3 b hb).1.1
  generalize hce : compEnvC scope (cellsFrom (s3.heap.objs.size + 1) scope.names (cloFrom X.env.cells scope.names [])) s3.heap.objs.size X.env = ce at I4 pg pt pe ⊢
  have cL : ce.locals = s3.heap.objs.size := by subst hce; rfl
  have k34 : ∀ b o, s3.heap.get? b = some o → (pushCells (s3.heap.push { cls := .type "dict", data := .dict #[] }) scope.names).get? b = some o := fun b o e => pushCells_keeps _ _ _ _ (Heap.get?_push_of_some _ e)
  generalize hH3 : upd H2 D (.lst []) = H3 at I3 I4 pg pt pe w0 nfp f3
  generalize hs4 : ({ s3 with heap := pushCells (s3.heap.push { cls := .type "dict", data := .dict #[] }) scope.names } : Shared) = s4 at I4 ⊢
  have I4' : Inv (blkY X s3 H3 scope ce fp) [] (wipe σ (own.map (·.2))) H3 s4 := Inv.blkY I3 (Nat.le_of_eq cL.symm) I4 fun b o e => by rw [← hs4]; exact k34 b o e
  have st4 : tn 0 s4.heap := T.keep _ _ _ st3 fun b _ o e => by rw [← hs4]; exact pushCells_keeps _ _ _ _ (Heap.get?_push_of_some _ e)
  have stat : ∀ {σ' : L2.St} {H' : Hp} {s' : Shared}, Inv (blkY X s3 H3 scope ce fp) [] σ' H' s' → (∀ b ∈ fp, H' b = none) → ∀ b ∈ fp, FpOk (blkY X s3 H3 scope ce fp) [] H' b := fun {σ' H' s'} I' hn b hb =>
    ⟨hn b hb, (I'.ok.exf b hb).1, I'.ok.exfs b hb, .inl hb, fun x c e => (I'.ok.exf b hb).2 x c e, fun p hp => (f3 b hb).1.2.2.2.2.2 p ((List.mem_append.mp hp).elim (List.mem_append_left _) (fun z => by cases z))⟩
  have loop : codeAny (model X.prog X.w) X.A (.compLoop (.ListComp elt [⟨tg, iter, ifs, 0⟩] scope pos) 0 (.ref it) (.ref D) ce) (compPost (model X.prog X.w) X.A X.xe use Qf (.ref D) s3.heap.objs.size) s4 := by
    refine compLoop_any (fun n s' => ∃ i H', Inv (blkY X s3 H3 scope ce fp) [] (wipe σ (own.map (·.2))) H' s' ∧ tn i s'.heap ∧ (∀ b ∈ fp, H' b = none) ∧ W i n H') ?_ m0 ⟨0, H3, I4', st4, nfp, w0⟩
    rintro n s5 ⟨i, H5, I5, st5, n5, w5⟩
    rcases turn i n H5 w5 with ⟨stop, qq⟩ | ⟨go, Nx, hNx, step⟩
    · obtain ⟨p, ⟨hh, v1, e1, c1⟩, hp⟩ := hc
      have hot : HotAt X.A p.1 s5.heap := ⟨hh, p.2, v1, (I5.pin p (List.mem_append_left _ hp)).1, e1, c1⟩
      have nx : p.1 ∉ fp := fun z => (f3 p.1 z).1.2.2.2.2.2 p (List.mem_append_left _ hp) rfl
      have td := T.done (blkY X s3 H3 scope ce fp) rfl rfl rfl i [] s5 _ H5 (fun _ _ => False) p.1 hot nx I5 (stat I5 n5) st5 stop
      refine thnF td fun r s6 ⟨hr, I6⟩ => ?_
      subst hr
      -- back in the def's context
      have I7 : Inv X pins σ H5 s6 := I3.call' (ch := fp) I6.os I6.base I6.hok I6.bare fun b hb => ⟨(f3 b hb).1.2.2.2.1, (f3 b hb).1.2.1, (f3 b hb).1.2.2.2.2.1, (f3 b hb).1.2.2.2.2.2⟩
      have nC : H5 s3.heap.objs.size = none := by
        have z : H5 ce.locals = none := I6.free
        rw [cL] at z
        exact z
      obtain ⟨m, hn, _⟩ := I6.loc
      have hn : s6.heap.Ns ce.locals m := hn
      rw [cL] at hn
      exact hRR D s3.heap.objs.size s6 m H5 I7 qq hn (I3.fpOk (Nat.le_refl _) nC)
    · have ti := T.item (blkY X s3 H3 scope ce fp) rfl rfl rfl i [] s5 _ H5 (fun _ _ => False) I5 (stat I5 n5) st5 go
      refine thnF ti fun r s6 ⟨u, hr, h6⟩ => ?_
      subst hr
      refine thnF h6 fun _ s7 ⟨x, H7, I7, r7, y7, st7, n7⟩ => ?_
      have I7' := I7.pinned (stat I7 n7) (T.obj _ _ st7)
      refine thnF (pg.run _ s7 _ H7 x u _ I7' r7 (step x H7 y7)) fun _ s8 ⟨σ8, H8, I8, hw8, q8⟩ => ?_
      refine thnF (pt.run _ s8 σ8 H8 _ I8 q8) fun b s9 ⟨H9, I9, q9⟩ => ?_
      -- the turn's end
      have fin : ∀ {s' : Shared} {H' : Hp}, Inv (blkY X s3 H3 scope ce fp) ([] ++ pinsAt fp s7.heap) σ8 H' s' → Nx H' → ∃ m, m < n ∧ ∃ i H', Inv (blkY X s3 H3 scope ce fp) [] (wipe σ (own.map (·.2))) H' s' ∧ tn i s'.heap ∧ (∀ b ∈ fp, H' b = none) ∧ W i m H' := fun {s' H'} I' nx => by
        obtain ⟨m', hm, w'⟩ := hNx H' nx
        have pin' : ∀ b ∈ fp, ∀ o, s7.heap.get? b = some o → s'.heap.get? b = some o ∧ H' b = none := fun b hb o e =>
          let z := I'.pin (b, o) (List.mem_append_right _ (List.mem_append_right _ (mem_pinsAt hb e)))
          ⟨z.1, z.2.1⟩
        have hl : (wipe σ (own.map (·.2))).length = σ8.length := by rw [← hw8, wipe_length]
        refine ⟨m', hm, i + 1, H', (I'.unpinned (pins := [])).weak hl (fun j v e => ?_), T.keep _ _ _ st7 fun b hb o e => (pin' b hb o e).1, fun b hb => ?_, w'⟩
        · rw [← hw8] at e
          exact (wipe_some e).1
        · obtain ⟨o, e, _⟩ := T.obj _ _ st7 b hb
          exact (pin' b hb o e).2
      cases b with
      | false =>
        simp only [Bool.false_eq_true, if_false] at q9 ⊢
        exact fin I9 q9
      | true =>
        simp only [if_true] at q9 ⊢
        refine thnF (pe.run _ s9 σ8 H9 _ I9 q9) fun z s10 ⟨yv, H10, I10, r10, acc, hD10, hz10, nx⟩ => ?_
        exact L2.app_ok (X := blkY X s3 H3 scope ce fp) I10 hD10 hz10 r10 fun s11 I11 => fin I11 nx
  exact codeAny_compStart_list loop (T.self X.A 0 _ _ _ st4 loop)
/-- as a value -/
theorem pe_lcY {elt tg iter : Expr} {ifs : List Expr} {scope : Scope} {own : List (Str × Nat)} {pos : Pos} {wi : TI} {g : TG} {tt : TT} {te : TE} (hc : L2H.HotC X) (hN : X.N.Nodup) (hi : PIY X tg iter wi) (ok : BlkOk X.N X.env.scope scope own)
    (hg : ∀ (s : Shared) (H : Hp) (C : Addr) (cl : List (Str × Addr)) (fp : List Addr), PG (blkY X s H scope (compEnvC scope cl C X.env) fp) tg g) (ht : ∀ (s : Shared) (H : Hp) (C : Addr) (cl : List (Str × Addr)) (fp : List Addr), PTs (blkY X s H scope (compEnvC scope cl C X.env) fp) ifs tt)
    (he : ∀ (s : Shared) (H : Hp) (C : Addr) (cl : List (Str × Addr)) (fp : List Addr), PE (blkY X s H scope (compEnvC scope cl C X.env) fp) elt te) (hs : ∀ x, foldedSetIterable iter X.env x = pure x := by intro _; rfl) :
    PE X (.ListComp elt [⟨tg, iter, ifs, 0⟩] scope pos) (tLc wi g tt te (own.map (·.2))) := by
  refine ⟨fun pins s σ H Q I h => ?_⟩
  rw [eval_ListComp]
  refine lc_coreY hc hN I hi ok hg ht he hs h fun D C s' m H' I' q hn f => ⟨m, hn, fun h'' sb => ?_⟩
  obtain ⟨f0, f1, f2, f3, f4, f5⟩ := f
  exact ⟨.ref D, H', I'.turned (t' := s'.toks) (fun b o hb e => (sb.2 b hb).trans e) f0 f1 f3 f4 f5, rfl, q⟩
end
section
variable {X : Cx} {c : Ctx} {tg iter elt e : Expr} {es ifs : List Expr} {src : Den (List D)} {t : D → List D → Option (List D)} {u : List D → List D → Option (List D)} {q : Den Bool} {f : Den Hdl} {ow o2 : List Nat} {pos : Pos}
structure TrIY (X : Cx) (c : Ctx) (tg e : Expr) (f : Den (List D)) : Prop where
  pi : ∀ W, L2N.Takes X W → PIY X tg e (tI c f W)
theorem piy_mono {tg : Expr} {t t' : TI} (h : PIY X tg e t) (k : ∀ σ H Q, t' σ H Q → t σ H Q) : PIY X tg e t' := ⟨fun pins s σ H Q I q => h.run pins s σ H Q I (k σ H Q q)⟩
theorem g_tupY {k n : Nat} {ow : List Nat} (hK : c.K = X.K) (hc : L2H.HotC X) (h : TrGs X c es ow u) (hn : (assignEach es X.env).length = n := by rfl) (hst : (assignEach es X.env).findIdx? (·.1) = none := by rfl) : TrG X c (.Tuple es k pos) ow (gT n u) := by
  refine ⟨pg_mono (pg_tupY hc h.pgs hn hst) fun v σ H Q h => ?_⟩
  obtain ⟨τ, F, S, d, A, sa, r, nd, τ', e, q⟩ := h
  cases d <;> first | (cases e; done) | skip
  rename_i ds
  have e : (if ds.length = n then u ds τ else none) = some τ' := e
  split at e
  · rename_i hl
    obtain ⟨p, vs, rfl, s1, r1⟩ := r
    exact ⟨p, vs, rfl, by rw [← hK]; exact sqT_mono sa.ex s1, by rw [r1.length, hl], τ, F, S, ds, A, sa, r1, nd, τ', e, q⟩
  · cases e
theorem i_seqY (hK : c.K = X.K) (ha : Tr X c e f) : TrIY X c tg e (seqS f) := by
  refine ⟨fun W tk => piy_mono (pi_seqY (ha.pe W tk)) fun σ H R h => ?_⟩
  refine src_sound (k := fun xs => xs) h fun ex r a q => ⟨_, rfl, ?_⟩
  rcases a with a | a
  · exact .inl ⟨⟨_, .inl (.inl (ex _ _ a))⟩, q _ (yld_list hK r a)⟩
  · exact .inr ⟨⟨_, by rw [← hK]; exact sqT_mono ex a⟩, q _ (yld_tup hK r a)⟩
theorem t_lcY {scope : Scope} {own : List (Str × Nat)} {pos : Pos} (hc : L2H.HotC X) (hN : X.N.Nodup) (hfx : ∀ i ∈ own.map (·.2), c.fx i = false) (ho : ∀ i ∈ o2, i ∈ own.map (·.2)) (hi : TrIY X c tg iter src) (ok : BlkOk X.N X.env.scope scope own)
    (hg : ∀ (s : Shared) (H : Hp) (C : Addr) (cl : List (Str × Addr)) (fp : List Addr), TrG (blkY X s H scope (compEnvC scope cl C X.env) fp) c tg o2 t)
    (ht : ∀ (s : Shared) (H : Hp) (C : Addr) (cl : List (Str × Addr)) (fp : List Addr), TrTs (blkY X s H scope (compEnvC scope cl C X.env) fp) c ifs q)
    (he : ∀ (s : Shared) (H : Hp) (C : Addr) (cl : List (Str × Addr)) (fp : List Addr), Tr (blkY X s H scope (compEnvC scope cl C X.env) fp) c elt f) (hs : ∀ x, foldedSetIterable iter X.env x = pure x := by intro _; rfl) :
    Tr X c (.ListComp elt [⟨tg, iter, ifs, 0⟩] scope pos) (lcE src t q f (own.map (·.2))) :=
  ⟨fun W tk => pe_mono (pe_lcY hc hN (hi.pi W tk) ok (fun s H C cl fp => (hg s H C cl fp).pg) (fun s H C cl fp => (ht s H C cl fp).pts _ takesF) (fun s H C cl fp => (he s H C cl fp).pe _ takesF) hs) fun σ H Q h => lc_sound hfx ho h⟩
end
end Y
end

section
set_option Elab.async false
set_option linter.all false
set_option maxRecDepth 100000
set_option maxHeartbeats 4000000
/-! Y16: slices turned about, list(range), in, starred displays, pop at a place, three stores at once, join. -/
namespace Y
open PySem PySem.Spec PyProof.Rows L2
/-! ### [::-1] -/
section
variable {prog : Program} {w : World} {A : Around} {E : Value → Shared → Prop} {s : Shared}
theorem places_rev (n : Nat) : Builtin.Slice.slicePlaces ((n : Int) - 1) (-1) (-1) = n := by
  unfold Builtin.Slice.slicePlaces
  have h1 : ¬ ((-1 : Int) > 0) := by omega
  simp only [h1, if_false]
  split
  · have : ((n : Int) - 1 - -1 - 1) / (- -1) + 1 = n := by
      have : (- -1 : Int) = 1 := by omega
      rw [this, Int.ediv_one]
      omega
    rw [this]
    simp
  · simp
    omega
theorem pick_rev (xs : Array Value) : ((List.range xs.size).filterMap fun (m : Nat) => xs[(((xs.size : Int) - 1) + (m : Int) * -1).toNat]?).toArray = xs.toList.reverse.toArray := by
  congr 1
  obtain ⟨l⟩ := xs
  simp only [List.size_toArray, List.getElem?_toArray]
  have h : ∀ k, k ≤ l.length → (List.range k).filterMap (fun (m : Nat) => l[(((l.length : Int) - 1) + (m : Int) * -1).toNat]?) = l.reverse.take k := by
    intro k
    induction k with
    | zero => intro _; simp
    | succ k ih =>
      intro hk
      rw [List.range_succ, List.filterMap_append, ih (by omega)]
      have e1 : (((l.length : Int) - 1) + (k : Int) * -1).toNat = l.length - 1 - k := by omega
      have e2 : l[l.length - 1 - k]? = l.reverse[k]? := by rw [List.getElem?_reverse (by omega)]
      have e3 : k < l.reverse.length := by rw [List.length_reverse]; omega
      rw [List.take_succ]
      congr 1
      simp only [List.filterMap_cons, List.filterMap_nil]
      rw [e1, e2, List.getElem?_eq_getElem e3]
      rfl
  have := h l.length (Nat.le_refl _)
  rw [this, List.take_of_length_le (by simp)]
theorem slice_rev {sl : Addr} {vs : Value} {n : Nat} {Q : Int × Int × Nat → Shared → Prop} (hs : s.heap.IsSliceOf sl .none .none vs) (ps : IsPart vs (some (-1)))
    (h : Q ((n : Int) - 1, -1, n) s) : wpAny (model prog w) A (Builtin.Slice.sliceApplied (.ref sl) (pure (n : Int))) Q E s := by
  obtain ⟨os, hos, hcs, hds⟩ := id hs
  unfold Builtin.Slice.sliceApplied Builtin.Slice.sliceFields
  refine wpAny_bind (wpAny_bind (wpAny_field hos hds (x := .none) rfl (wpAny_bind (wpAny_field hos hds (x := .none) rfl (wpAny_bind (wpAny_field hos hds (x := vs) rfl (wpAny_pure ?_)))))))
  refine wpAny_bind (HT.slicePart_ ps ?_)
  show wpAny _ _ (if ((-1 : Int) == 0) = true then _ else _) _ _ s
  rw [if_neg (by decide)]
  refine wpAny_bind (HT.slicePart_ .none (wpAny_bind (HT.slicePart_ .none (wpAny_bind (wpAny_pure ?_)))))
  show wpAny _ _ (match Builtin.Slice.sliceAdjust none none (-1) (n : Int) with | (lo, hi) => pure (lo, (-1 : Int), Builtin.Slice.slicePlaces lo hi (-1))) _ _ s
  have ha : Builtin.Slice.sliceAdjust none none (-1) (n : Int) = ((n : Int) - 1, -1) := rfl
  rw [ha]
  show wpAny _ _ (pure (((n : Int) - 1), (-1 : Int), Builtin.Slice.slicePlaces ((n : Int) - 1) (-1) (-1))) _ _ s
  rw [places_rev]
  exact wpAny_pure h
theorem getItem_tuple_rev {t sl : Addr} {items : Array Value} {vs : Value} {Q : Value → Shared → Prop} (ht : IsTup s.heap t items) (hs : s.heap.IsSliceOf sl .none .none vs) (ps : IsPart vs (some (-1)))
    (h : Q (.ref s.heap.objs.size) { s with heap := s.heap.push { cls := .type "tuple", data := .seq items.toList.reverse.toArray } })
    (hsz : items.size ≤ sizeLine) : wpAny (model prog w) A (getItem (.ref t) (.ref sl)) Q E s := by
  have htake : sizeOk (.seq items.toList.reverse.toArray) := by
    show items.toList.reverse.toArray.size ≤ sizeLine
    rw [List.size_toArray, List.length_reverse, Array.length_toList]
    exact hsz
  obtain ⟨os, hos, hcs, hds⟩ := id hs
  have hTs : s.TypeIs (.ref sl) "slice" := ⟨os, hos, hcs⟩
  unfold getItem
  try with_reducible refine wpAny_holding ?_
  first | refine wpAny_bind (wpAny_pure ?_) | skip
  refine wpAny_bind (wpAny_sequenceKey ht.typeIs (by decide) ?_)
  refine wpAny_bind (wpAny_callSpecial?_slot (name := Str.ofString "__getitem__") ht.typeIs PyProof.Rows.slot_tuple_getitem
    (wpAny_call_entry PyProof.Rows.slot_tuple_getitem ht.typeIs entry_tuple_getitem ?_ (args_tuple_getitem _ _)))
  show wpAny _ _ (Builtin.Tuple.tupleItemsOf (.ref t) >>= _) _ _ s
  refine wpAny_bind (tupleItemsOf_ ht ?_)
  refine wpAny_bind (wpAny_typeOf hTs ?_)
  rw [if_pos (by decide)]
  refine wpAny_bind (slice_rev hs ps ?_)
  have hno : ¬ ((((items.size : Int) - 1) == 0 && (-1 : Int) == 1 && items.size == items.size) = true) := by
    intro q
    rw [Bool.and_eq_true, Bool.and_eq_true] at q
    have q1 : (-1 : Int) = 1 := eq_of_beq q.1.2
    omega
  show wpAny _ _ (if (((items.size : Int) - 1) == 0 && (-1 : Int) == 1 && items.size == items.size) = true then _ else _) _ _ s
  rw [if_neg hno, pick_rev]
  first
    | exact wpAny_bind (m := Builtin.Tuple.tupleExact _) (wpAny_newObj_type (wpAny_pure ⟨_, rfl, wpAny_pure h⟩) htake)
    | exact wpAny_bind (m := Builtin.Tuple.tupleExact _) (wpAny_newObj_type (wpAny_bind (wpAny_pure (wpAny_pure ⟨_, rfl, wpAny_pure h⟩))) htake)
    | exact wpAny_bind (wpAny_bind (m := Builtin.Tuple.tupleExact _) (wpAny_newObj_type (wpAny_pure (wpAny_pure ⟨_, rfl, wpAny_pure h⟩)) htake))
    | exact wpAny_bind (wpAny_bind (m := Builtin.Tuple.tupleExact _) (wpAny_newObj_type (wpAny_pure ⟨_, rfl, wpAny_pure h⟩) htake))
end
section
variable {X : Cx}
def rRevA (K : PySem.W.Frag) : V → Hp → VK → Prop := fun x H Q => (∃ a xs, x = .ref a ∧ SqL K H a xs ∧ ∀ p, H p = none → Q (.ref p) (upd H p (.lst xs.reverse))) ∨ (∃ a xs, x = .ref a ∧ SqT K H a xs ∧ ∀ p, H p = none → Q (.ref p) (upd H p (.tup xs.reverse)))
theorem pe_rev {e : Expr} {te : TE} {k : Nat} {p1 p2 p3 pos : Pos} (he : PE X e te) : PE X (.Subscript e (.Slice none none (some (.UnaryOp .USub (.Constant (.int 1) k p1) p2)) p3) pos) (fun σ H Q => te σ H fun x H1 => rRevA X.K x H1 Q) := by
  refine ⟨fun pins s σ H Q I h => ?_⟩
  refine Subscript_ (thn (he.run pins s σ H _ I h) fun v s1 ⟨x, H1, I1, r1, q1⟩ => ?_)
  have hst : PO X (some (.UnaryOp .USub (.Constant (.int 1) k p1) p2)) (tPart (tUn (rU fun i => .int (-i)) (tC (.int 1)))) := po_some (pe_un un_neg pe_int)
  refine wpAny_Slice (thn (po_none.run pins s1 σ H1 (fun o H2 => o = none ∧ H2 = H1) I1 ⟨rfl, rfl⟩) fun vl s2 ⟨l, H2, I2, pl, el, e2⟩ => ?_)
  subst el e2
  refine thn (po_none.run pins s2 σ H2 (fun o H3 => o = none ∧ H3 = H2) I2 ⟨rfl, rfl⟩) fun vu s3 ⟨u, H3, I3, pu, eu, e3⟩ => ?_
  subst eu e3
  refine thn (hst.run pins s3 σ H3 (fun o H4 => o = some (-1) ∧ H4 = H3) I3 ⟨1, rfl, -1, rfl, rfl, rfl⟩) fun vs s4 ⟨o, H4, I4, ps, eo, e4⟩ => ?_
  subst eo e4
  have I5 : Inv X pins σ H4 { s4 with heap := s4.heap.push { cls := .type "slice", data := .fields #[vl, vu, vs] } } := I4.kept (t' := s4.toks) fun b ob q => Heap.get?_push_of_some _ q
  rcases q1 with ⟨a, xs, ex, hx, q⟩ | ⟨a, xs, ex, hx, q⟩
  · subst ex
    cases r1
    obtain ⟨its, r, ht, hz⟩ := I5.list hx
    have hlen := r.length
    show wpAny (model X.prog X.w) X.A (subscriptTail e (.Slice none none (some (.UnaryOp .USub (.Constant (.int 1) k p1) p2)) p3) (.ref a) (.ref s4.heap.objs.size)) (EP X pins σ Q) X.xe { s4 with heap := s4.heap.push { cls := .type "slice", data := .fields #[vl, vu, vs] } }
    refine tail_any (ops := [.ref a, .ref s4.heap.objs.size]) ht.isList.typeIs (PySem.slot_list_getitem.lookup) ?_ (by with_unfolding_all rfl)
    refine wpAny_getItem_list_slice ht.isList (Heap.IsSliceOf.new _ vl vu vs) pl pu ps (by decide) ?_ (by rw [List.size_toArray]; omega)
    rw [PySem.W.krv_pick]
    refine ⟨.ref _, _, I5.laid (t' := s4.toks) (o := .lst xs.reverse) (fun b ob q => Heap.get?_push_of_some _ q) (Nat.le_refl _) ?_, rfl, q _ (I5.hok.fresh (Nat.le_refl _))⟩
    exact ⟨by rw [List.length_reverse]; exact hz, _, 0, r.reverse, Heap.get?_push_size _ rfl⟩
  · subst ex
    cases r1
    obtain ⟨its, r, ht, hz⟩ := I5.tuple hx
    have hlen := r.length
    cases pl
    cases pu
    show wpAny (model X.prog X.w) X.A (subscriptTail e (.Slice none none (some (.UnaryOp .USub (.Constant (.int 1) k p1) p2)) p3) (.ref a) (.ref s4.heap.objs.size)) (EP X pins σ Q) X.xe { s4 with heap := s4.heap.push { cls := .type "slice", data := .fields #[.none, .none, vs] } }
    refine tail_any (ops := [.ref a, .ref s4.heap.objs.size]) (IsTup.typeIs ht) (PyProof.Rows.slot_tuple_getitem.lookup) ?_ (by with_unfolding_all rfl)
    refine getItem_tuple_rev ht (Heap.IsSliceOf.new _ .none .none vs) ps ?_ (by rw [List.size_toArray]; omega)
    refine ⟨.ref _, _, I5.laid (t' := s4.toks) (o := .tup xs.reverse) (fun b ob q => Heap.get?_push_of_some _ q) (Nat.le_refl _) ?_, rfl, q _ (I5.hok.fresh (Nat.le_refl _))⟩
    exact ⟨by rw [List.length_reverse]; exact hz, _, r.reverse, IsTup.new _ _⟩
end
def revD : D → Option D
  | .lst _ xs => if D.pls xs then some (.lst true xs.reverse) else none
  | .tup xs => if D.pls xs then some (.tup xs.reverse) else none
  | _ => none
section
variable {X : Cx} {c : Ctx} {a b e : Expr} {rest es : List Expr} {f f1 f2 f3 : Den Hdl} {g : Den (List Hdl)} {pos : Pos} {F H : Hp}
theorem rels_reverse {ds : List D} {vs : List V} (r : Rels c F H ds vs []) : Rels c F H ds.reverse vs.reverse [] := by
  induction ds generalizing vs with
  | nil => obtain ⟨rfl, _⟩ := r; exact Rels.nil
  | cons d ds ih =>
    obtain ⟨v, ws, B, C, rfl, e, q1, q2⟩ := r
    have e := List.append_eq_nil_iff.mp e.symm
    obtain ⟨rfl, rfl⟩ := e
    rw [List.reverse_cons, List.reverse_cons]
    exact (ih q2).append (A := []) (B := []) (Rels.cons (A := []) (B := []) q1 Rels.nil)
theorem rev_sound : UoS c (rRevA c.K) revD := by
  refine ⟨rfl, fun {F H x dx A d Q} e rx eg q => ?_⟩
  cases dx <;> first | (cases eg; done) | skip
  case tup xs =>
    have eg : (if D.pls xs then some (D.tup xs.reverse) else none) = some d := eg
    split at eg <;> cases eg
    rename_i hl
    obtain ⟨p, vs, rfl, s1, r1⟩ := rx
    have z1 := r1.pl_nil hl
    subst z1
    refine .inr ⟨p, vs, rfl, sqT_sub e s1, fun l hn => ?_⟩
    obtain ⟨g, r⟩ := rel_newT e (rels_reverse r1) hn
    exact q _ _ _ [] g r
  case lst o xs =>
    have eg : (if D.pls xs then some (D.lst true xs.reverse) else none) = some d := eg
    split at eg <;> cases eg
    rename_i hl
    obtain ⟨p, vs, B, rfl, s1, r1, _⟩ := rel_lst e rx
    have z1 := r1.pl_nil hl
    subst z1
    refine .inl ⟨p, vs, rfl, .inl (.inl s1), fun l hn => ?_⟩
    obtain ⟨g, r⟩ := rel_new e (rels_reverse r1) hn
    exact q _ _ _ [l] g r
theorem t_rev {k : Nat} {p1 p2 p3 : Pos} (hK : c.K = X.K) (ha : Tr X c a f) : Tr X c (.Subscript a (.Slice none none (some (.UnaryOp .USub (.Constant (.int 1) k p1) p2)) p3) pos) (uno revD f) :=
  ⟨fun W tk => pe_mono (pe_rev (ha.pe W tk)) fun _ _ _ h => uno_sound (by rw [← hK]; exact rev_sound) h⟩

/-! ### list(range(..)), tuple(range(..)) -/
def rgL (i j : Int) : List D := (List.range (j - i).toNat).map fun k => .int (i + (k : Nat))
def lrC (i j : Int) : Bool := decide (-1000000000 ≤ i) && decide (i ≤ 1000000000) && decide (-1000000000 ≤ j) && decide (j ≤ 1000000000) && decide (j - i ≤ 100000)
def lr1D : D → Option D
  | .int j => if lrC 0 j then some (.lst true (rgL 0 j)) else none
  | _ => none
def lr2D : D → D → Option D
  | .int i, .int j => if lrC i j then some (.lst true (rgL i j)) else none
  | _, _ => none
def tr1D : D → Option D
  | .int j => if lrC 0 j then some (.tup (rgL 0 j)) else none
  | _ => none
def tr2D : D → D → Option D
  | .int i, .int j => if lrC i j then some (.tup (rgL i j)) else none
  | _, _ => none
theorem rels_rg (i j : Int) : Rels c F H (rgL i j) (rgV i j) [] := by
  unfold rgL rgV
  generalize List.range (j - i).toNat = l
  induction l with
  | nil => exact Rels.nil
  | cons k l ih => exact Rels.cons (A := []) (B := []) (show Rel c F H (.int _) (.int _) [] from ⟨rfl, rfl⟩) ih
theorem lrC_ok {i j : Int} (h : lrC i j = true) : RgOk i j := by
  unfold lrC at h
  simp only [Bool.and_eq_true, decide_eq_true_eq] at h
  unfold RgOk
  omega
def rLr (i j : Int) : Hp → VK → Prop := fun H Q => RgOk i j ∧ ∀ q, H q = none → Q (.ref q) (upd H q (.lst (rgV i j)))
def rTr (i j : Int) : Hp → VK → Prop := fun H Q => RgOk i j ∧ ∀ q, H q = none → Q (.ref q) (upd H q (.tup (rgV i j)))
theorem lr1_sound : UoS c (fun x H Q => ∃ n, x = .int n ∧ rLr 0 n H Q) lr1D := by
  refine ⟨rfl, fun {F H x dx A d Q} e rx eg q => ?_⟩
  cases dx <;> first | (cases eg; done) | skip
  rename_i j
  have eg : (if lrC 0 j then some (D.lst true (rgL 0 j)) else none) = some d := eg
  split at eg <;> cases eg
  rename_i hl
  obtain ⟨rfl, _⟩ := rx
  refine ⟨j, rfl, lrC_ok hl, fun l hn => ?_⟩
  obtain ⟨g, r⟩ := rel_new e (rels_rg 0 j) hn
  exact q _ _ _ [l] g r
theorem tr1_sound : UoS c (fun x H Q => ∃ n, x = .int n ∧ rTr 0 n H Q) tr1D := by
  refine ⟨rfl, fun {F H x dx A d Q} e rx eg q => ?_⟩
  cases dx <;> first | (cases eg; done) | skip
  rename_i j
  have eg : (if lrC 0 j then some (D.tup (rgL 0 j)) else none) = some d := eg
  split at eg <;> cases eg
  rename_i hl
  obtain ⟨rfl, _⟩ := rx
  refine ⟨j, rfl, lrC_ok hl, fun l hn => ?_⟩
  obtain ⟨g, r⟩ := rel_newT e (rels_rg 0 j) hn
  exact q _ _ _ [] g r
theorem lr2_sound : OpS c (fun x y H Q => ∃ i j, x = .int i ∧ y = .int j ∧ rLr i j H Q) lr2D := by
  refine ⟨fun y => by cases y <;> rfl, fun x => by cases x <;> rfl, fun {F H x y dx dy A B d Q} e rx ry eg q => ?_⟩
  cases dx <;> first | (cases eg; done) | skip
  cases dy <;> first | (cases eg; done) | skip
  rename_i i j
  have eg : (if lrC i j then some (D.lst true (rgL i j)) else none) = some d := eg
  split at eg <;> cases eg
  rename_i hl
  obtain ⟨rfl, _⟩ := rx
  obtain ⟨rfl, _⟩ := ry
  refine ⟨i, j, rfl, rfl, lrC_ok hl, fun l hn => ?_⟩
  obtain ⟨g, r⟩ := rel_new e (rels_rg i j) hn
  exact q _ _ _ [l] g r
theorem tr2_sound : OpS c (fun x y H Q => ∃ i j, x = .int i ∧ y = .int j ∧ rTr i j H Q) tr2D := by
  refine ⟨fun y => by cases y <;> rfl, fun x => by cases x <;> rfl, fun {F H x y dx dy A B d Q} e rx ry eg q => ?_⟩
  cases dx <;> first | (cases eg; done) | skip
  cases dy <;> first | (cases eg; done) | skip
  rename_i i j
  have eg : (if lrC i j then some (D.tup (rgL i j)) else none) = some d := eg
  split at eg <;> cases eg
  rename_i hl
  obtain ⟨rfl, _⟩ := rx
  obtain ⟨rfl, _⟩ := ry
  refine ⟨i, j, rfl, rfl, lrC_ok hl, fun l hn => ?_⟩
  obtain ⟨g, r⟩ := rel_newT e (rels_rg i j) hn
  exact q _ _ _ [] g r
theorem t_lr1 {p p' ps : Pos} (hc : X.calm = true) (hm : X.mg "list" = none) (hm2 : X.mg "range" = none) (ha : Tr X c a f) (hg : Gl X "list" := by rfl) (hg2 : Gl X "range" := by rfl)
    (hs : starEach [a] X.env = [(false, eval a X.env)] := by rfl) :
    Tr X c (.Call (.Name "list" p) [.Call (.Name "range" p') [a] [] ps] [] pos) (uno lr1D f) :=
  ⟨fun W tk => pe_mono (pe_listRg hc hg hm (prg_1 hg2 hm2 (ha.pe W tk) hs)) fun _ _ _ h => uno_sound lr1_sound h⟩
theorem t_lr2 {p p' ps : Pos} (hc : X.calm = true) (hm : X.mg "list" = none) (hm2 : X.mg "range" = none) (ha : Tr X c a f1) (hb : Tr X c b f2) (hg : Gl X "list" := by rfl) (hg2 : Gl X "range" := by rfl)
    (hs : starEach [a, b] X.env = (false, eval a X.env) :: starEach [b] X.env := by rfl) (hs2 : starEach [b] X.env = (false, eval b X.env) :: starEach [] X.env := by rfl) (hs3 : (backTo ps (starEach [b] X.env)).any (·.1) = false := by rfl) :
    Tr X c (.Call (.Name "list" p) [.Call (.Name "range" p') [a, b] [] ps] [] pos) (bin lr2D f1 f2) :=
  ⟨fun W tk => pe_mono (pe_listRg hc hg hm (prg_2 hg2 hm2 (ha.pe W tk) (hb.pe W tk) hs hs2 hs3)) fun _ _ _ h => bin_sound (r := fun x y H Q => ∃ i j, x = .int i ∧ y = .int j ∧ rLr i j H Q) lr2_sound h⟩
theorem t_tr1 {p p' ps : Pos} (hc : X.calm = true) (hm : X.mg "tuple" = none) (hm2 : X.mg "range" = none) (ha : Tr X c a f) (hg : Gl X "tuple" := by rfl) (hg2 : Gl X "range" := by rfl)
    (hs : starEach [a] X.env = [(false, eval a X.env)] := by rfl) :
    Tr X c (.Call (.Name "tuple" p) [.Call (.Name "range" p') [a] [] ps] [] pos) (uno tr1D f) :=
  ⟨fun W tk => pe_mono (pe_tupRg hc hg hm (prg_1 hg2 hm2 (ha.pe W tk) hs)) fun _ _ _ h => uno_sound tr1_sound h⟩
theorem t_tr2 {p p' ps : Pos} (hc : X.calm = true) (hm : X.mg "tuple" = none) (hm2 : X.mg "range" = none) (ha : Tr X c a f1) (hb : Tr X c b f2) (hg : Gl X "tuple" := by rfl) (hg2 : Gl X "range" := by rfl)
    (hs : starEach [a, b] X.env = (false, eval a X.env) :: starEach [b] X.env := by rfl) (hs2 : starEach [b] X.env = (false, eval b X.env) :: starEach [] X.env := by rfl) (hs3 : (backTo ps (starEach [b] X.env)).any (·.1) = false := by rfl) :
    Tr X c (.Call (.Name "tuple" p) [.Call (.Name "range" p') [a, b] [] ps] [] pos) (bin tr2D f1 f2) :=
  ⟨fun W tk => pe_mono (pe_tupRg hc hg hm (prg_2 hg2 hm2 (ha.pe W tk) (hb.pe W tk) hs hs2 hs3)) fun _ _ _ h => bin_sound (r := fun x y H Q => ∃ i j, x = .int i ∧ y = .int j ∧ rTr i j H Q) tr2_sound h⟩

/-! ### in, of flat things -/
def flV : D → Option V
  | .non => some .non
  | .bl b => some (.bl b)
  | .int i => some (.int i)
  | .str s => some (.str s)
  | _ => none
def flVs : List D → Option (List V)
  | [] => some []
  | d :: ds => match flV d, flVs ds with
    | some v, some vs => some (v :: vs)
    | _, _ => none
def itemsD : D → Option (List D)
  | .lst _ xs => some xs
  | .tup xs => some xs
  | _ => none
/-- x in y -/
def inB (x y : D) : Option Bool := match y with
  | .dct _ ks _ => (keyD x).map fun k => ks.any fun j => decide (j = k)
  | _ => match flV x, (itemsD y).bind flVs with
    | some v, some vs => some (inV v vs)
    | _, _ => none
def inD (x y : D) : Option D := (inB x y).map .bl
def ninD (x y : D) : Option D := (inB x y).map fun k => .bl (!k)
theorem flV_rel {d : D} {v u : V} {A : List Addr} (h : flV d = some u) (r : Rel c F H d v A) : v = u ∧ flatV v = true := by
  cases d <;> first | (cases h; done) | skip
  all_goals (cases h; obtain ⟨rfl, _⟩ := r; exact ⟨rfl, rfl⟩)
theorem flVs_rel : ∀ {ds : List D} {vs us : List V} {A : List Addr}, flVs ds = some us → Rels c F H ds vs A → vs = us ∧ vs.all flatV = true
  | [], vs, us, A, h, r => by cases h; obtain ⟨rfl, _⟩ := r; exact ⟨rfl, rfl⟩
  | d :: ds, vs, us, A, h, r => by
    obtain ⟨v, ws, B, C, rfl, _, r1, r2⟩ := r
    unfold flVs at h
    split at h <;> cases h
    rename_i u us' e1 e2
    obtain ⟨rfl, f1⟩ := flV_rel e1 r1
    obtain ⟨rfl, f2⟩ := flVs_rel e2 r2
    exact ⟨rfl, by simp [f1, f2]⟩
theorem items_rel {d : D} {xs : List D} {v : V} {A : List Addr} (ex : ∀ b o, F b = some o → H b = some o) (h : itemsD d = some xs) (r : Rel c F H d v A) : ∃ p vs B, v = .ref p ∧ (SqL c.K H p vs ∨ SqT c.K H p vs) ∧ Rels c F H xs vs B ∧ ∀ b ∈ B, b ∈ A := by
  cases d <;> first | (cases h; done) | skip
  case tup ds =>
    cases h
    obtain ⟨p, vs, rfl, s1, r1⟩ := r
    exact ⟨p, vs, A, rfl, .inr (sqT_sub ex s1), r1, fun b h => h⟩
  case lst o ds =>
    cases h
    obtain ⟨p, vs, B, rfl, s1, r1, hb⟩ := rel_lst ex r
    exact ⟨p, vs, B, rfl, .inl (.inl (.inl s1)), r1, hb⟩
def rInA (K : PySem.W.Frag) (n : Bool) : R2 := fun x y H Q => rIn K n x y H Q ∨ ∃ a o, y = .ref a ∧ DGet H a x o ∧ Q (.bl (if n then !o.isSome else o.isSome)) H
theorem op_in_dct (hu : X.A.units + 1 < cLine) : OpR X (compareOp .In) (fun x y H Q => ∃ a o, y = .ref a ∧ DGet H a x o ∧ Q (.bl (if false then !o.isSome else o.isSome)) H) := by
  intro pins s σ H x y v u Q I rx ry h
  obtain ⟨a, o, rfl, hd, q⟩ := h
  obtain rfl : u = Value.ref a := ry
  exact d_in hu I hd rx fun s3 I3 => ⟨.bl o.isSome, H, I3, rfl, q⟩
theorem op_nin_dct (hu : X.A.units + 1 < cLine) : OpR X (compareOp .NotIn) (fun x y H Q => ∃ a o, y = .ref a ∧ DGet H a x o ∧ Q (.bl (if true then !o.isSome else o.isSome)) H) := by
  intro pins s σ H x y v u Q I rx ry h
  obtain ⟨a, o, rfl, hd, q⟩ := h
  obtain rfl : u = Value.ref a := ry
  exact d_notIn hu I hd rx fun s3 I3 => ⟨.bl (!o.isSome), H, I3, rfl, q⟩
theorem valV_zip {ks : List Key} {k : Key} : ∀ {vs : List V}, ks.length = vs.length → (valV (ks.zip vs) k).isSome = ks.any fun j => decide (j = k) := by
  induction ks with
  | nil => intro vs h; rfl
  | cons j ks ih =>
    intro vs h
    cases vs with
    | nil => simp at h
    | cons v vs =>
      have h : ks.length = vs.length := by simpa using h
      rw [List.zip_cons_cons, List.any_cons]
      by_cases hj : j = k
      · rw [valV_pos hj]
        simp [hj]
      · rw [valV_neg hj, ih h]
        simp [hj]
theorem in_core {x y : V} {dx dy : D} {A B : List Addr} {k n : Bool} {Q : VK} (ex : ∀ b o, F b = some o → H b = some o) (rx : Rel c F H dx x A) (ry : Rel c F H dy y B) (h : inB dx dy = some k) (q : Q (.bl (if n then !k else k)) H) : rInA c.K n x y H Q := by
  have seq : ∀ {u : V} {ys : List D} {us : List V}, flV dx = some u → itemsD dy = some ys → flVs ys = some us → k = inV u us → rInA c.K n x y H Q := fun {u ys us} e1 e2 e3 e4 => by
    subst e4
    obtain ⟨rfl, f1⟩ := flV_rel e1 rx
    obtain ⟨p, vs, B', rfl, hq, r1, _⟩ := items_rel ex e2 ry
    obtain ⟨rfl, f2⟩ := flVs_rel e3 r1
    exact .inl ⟨p, vs, rfl, hq, f1, f2, q⟩
  cases dy
  case dct o ks ds =>
    cases e1 : keyD dx with
    | none => simp [inB, e1] at h
    | some j =>
      have h : some (ks.any fun i => decide (i = j)) = some k := by
        have h' := h
        simp only [inB, e1, Option.map_some] at h'
        exact h'
      cases h
      obtain ⟨p, vs, B', rfl, hp, hl, r1, _⟩ := rel_dct ex ry
      have e := keyD_rel e1 rx
      subst e
      refine .inr ⟨p, _, rfl, DGet.k hp, ?_⟩
      rw [valV_zip (by rw [r1.length]; exact hl)]
      exact q
  case tup ys =>
    have h : (match flV dx, flVs ys with
      | some v, some vs => some (inV v vs)
      | _, _ => none) = some k := h
    cases e1 : flV dx with
    | none => rw [e1] at h; cases h
    | some u =>
      cases e2 : flVs ys with
      | none => rw [e1, e2] at h; cases h
      | some us =>
        rw [e1, e2] at h
        cases h
        exact seq e1 rfl e2 rfl
  case lst o ys =>
    have h : (match flV dx, flVs ys with
      | some v, some vs => some (inV v vs)
      | _, _ => none) = some k := h
    cases e1 : flV dx with
    | none => rw [e1] at h; cases h
    | some u =>
      cases e2 : flVs ys with
      | none => rw [e1, e2] at h; cases h
      | some us =>
        rw [e1, e2] at h
        cases h
        exact seq e1 rfl e2 rfl
  all_goals
    (have h : (match flV dx, (none : Option (List V)) with
      | some v, some vs => some (inV v vs)
      | _, _ => none) = some k := h
     cases e1 : flV dx <;> (rw [e1] at h; cases h))
theorem inB_un1 (y : D) : inB .un y = none := by cases y <;> rfl
theorem inB_un2 (x : D) : inB x .un = none := by
  show (match flV x, (none : Option (List V)) with
    | some v, some vs => some (inV v vs)
    | _, _ => none) = none
  cases flV x <;> rfl
theorem in_sound : OpS c (rInA c.K false) inD := by
  refine ⟨fun y => by unfold inD; rw [inB_un1]; rfl, fun x => by unfold inD; rw [inB_un2]; rfl, fun {F H x y dx dy A B d Q} e rx ry eg q => ?_⟩
  unfold inD at eg
  cases h : inB dx dy with
  | none => rw [h] at eg; cases eg
  | some k =>
    rw [h] at eg
    cases eg
    exact in_core e rx ry h (q (.bl k) F H [] (Grow.refl e) rel_bl)
theorem nin_sound : OpS c (rInA c.K true) ninD := by
  refine ⟨fun y => by unfold ninD; rw [inB_un1]; rfl, fun x => by unfold ninD; rw [inB_un2]; rfl, fun {F H x y dx dy A B d Q} e rx ry eg q => ?_⟩
  unfold ninD at eg
  cases h : inB dx dy with
  | none => rw [h] at eg; cases eg
  | some k =>
    rw [h] at eg
    cases eg
    exact in_core e rx ry h (q (.bl (!k)) F H [] (Grow.refl e) rel_bl)
theorem t_in (hK : c.K = X.K) (hu : X.A.units + 1 < cLine) (ha : Tr X c a f1) (hb : Tr X c b f2) (hm : behindInMarks .In b = false := by first | exact nomark _ | rfl) : Tr X c (.Compare a [.In] [b] pos) (bin inD f1 f2) :=
  t_cmp (r := rInA c.K false) (by rw [hK]; exact op_in_seq.or (op_in_dct hu)) in_sound ha hb hm
theorem t_nin (hK : c.K = X.K) (hu : X.A.units + 1 < cLine) (ha : Tr X c a f1) (hb : Tr X c b f2) (hm : behindInMarks .NotIn b = false := by first | exact nomark _ | rfl) : Tr X c (.Compare a [.NotIn] [b] pos) (bin ninD f1 f2) :=
  t_cmp (r := rInA c.K true) (by rw [hK]; exact op_notIn_seq.or (op_nin_dct hu)) nin_sound ha hb hm
theorem tt_in (hK : c.K = X.K) (hu : X.A.units + 1 < cLine) (ha : Tr X c a f1) (hb : Tr X c b f2) (hm : behindInMarks .In b = false := by first | exact nomark _ | rfl) : TrT X c (.Compare a [.In] [b] pos) (tst (bin inD f1 f2)) :=
  tt_cmp (r := rInA c.K false) (by rw [hK]; exact op_in_seq.or (op_in_dct hu)) in_sound ha hb hm
theorem tt_nin (hK : c.K = X.K) (hu : X.A.units + 1 < cLine) (ha : Tr X c a f1) (hb : Tr X c b f2) (hm : behindInMarks .NotIn b = false := by first | exact nomark _ | rfl) : TrT X c (.Compare a [.NotIn] [b] pos) (tst (bin ninD f1 f2)) :=
  tt_cmp (r := rInA c.K true) (by rw [hK]; exact op_notIn_seq.or (op_nin_dct hu)) nin_sound ha hb hm

/-! ### a star in a display -/
def plItems (d : D) : Option (List D) := match itemsD d with
  | some xs => if D.pls xs then some xs else none
  | none => none
def astar (f : Den Hdl) (g : Den (List Hdl)) : Den (List Hdl) := fun τ => (f τ).bind fun h τ1 => match plItems (h.get τ1) with
  | some xs => (g τ1).bind fun hs τ2 => .ok (xs.map Hdl.val ++ hs) τ2
  | none => .bad
theorem relHs_vals {σ : L2.St} : ∀ {xs : List D} {vs : List V} {hs : List Hdl} {ws : List V} {A : List Addr}, Rels c F H xs vs [] → RelHs c F H σ hs ws A → RelHs c F H σ (xs.map Hdl.val ++ hs) (vs ++ ws) A
  | [], vs, hs, ws, A, r, q => by obtain ⟨rfl, _⟩ := r; exact q
  | d :: ds, vs, hs, ws, A, r, q => by
    obtain ⟨v, us, B, C, rfl, e, r1, r2⟩ := r
    obtain ⟨rfl, rfl⟩ := List.append_eq_nil_iff.mp e.symm
    exact ⟨v, us ++ ws, [], A, rfl, rfl, r1, relHs_vals r2 q⟩
theorem ta_star {sp : Pos} (hK : c.K = X.K) (ha : Tr X c e f) (hr : TrA X c es g) (hs : starEach (.Starred e sp :: es) X.env = (true, eval e X.env) :: starEach es X.env := by rfl) : TrA X c (.Starred e sp :: es) (astar f g) := by
  refine ⟨fun W tk => pa_mono (StX.pa_star (ha.pe W tk) (hr.pa W tk) hs) fun σ H Q h => ?_⟩
  obtain ⟨τ, F, S, sa, h⟩ := h
  refine ⟨τ, F, S, sa, ?_⟩
  unfold astar at h
  cases e1 : f τ with
  | bad => rw [e1] at h; exact h
  | ex n d τ' => rw [e1] at h; exact h
  | ok h1 τ1 =>
    rw [e1] at h
    intro v1 F1 H1 A1 S1 g1 sa1 r1 nd1
    dsimp only [Rz.bind] at h
    cases e2 : plItems (h1.get τ1) with
    | none => rw [e2] at h; exact h.elim
    | some xs =>
      rw [e2] at h
      dsimp only at h
      have hi : itemsD (h1.get τ1) = some xs ∧ D.pls xs = true := by
        unfold plItems at e2
        cases e3 : itemsD (h1.get τ1) with
        | none => rw [e3] at e2; cases e2
        | some ys =>
          rw [e3] at e2
          have e2 : (if D.pls ys then some ys else none) = some xs := e2
          split at e2 <;> cases e2
          rename_i hl
          exact ⟨rfl, hl⟩
      rcases r1.get sa1 with z | ⟨B1, q1⟩
      · rw [z] at hi
        cases hi.1
      obtain ⟨p, vs, B2, rfl, hq, r2, _⟩ := items_rel sa1.ex hi.1 q1
      have z2 := r2.pl_nil hi.2
      subst z2
      refine ⟨p, vs, rfl, by rw [← hK]; exact hq.symm, τ1, F1, S1, sa1, ?_⟩
      have go1 : Go F H S F1 H1 S1 := Go.less g1 fun b hb => List.mem_append_right _ hb
      cases e3 : g τ1 with
      | bad => rw [e3] at h; exact h.elim
      | ex n d τ' =>
        rw [e3] at h
        exact Post.step (A := []) (α := List Hdl) (β := List V) (R := fun F H => RelHs c F H σ) (Q := Q) (r := .ex n d τ') go1 h
      | ok hs τ2 =>
        rw [e3] at h
        intro ws F2 H2 A2 S2 g2 sa2 q2 nd2
        exact (show Post c (fun F H => RelHs c F H σ) W F H σ S Q (.ok (xs.map Hdl.val ++ hs) τ2) from h) (vs ++ ws) F2 H2 A2 S2 (Go.trans0 go1 g2) sa2 (relHs_vals (Rels.mono g2.f r2 fun b hb => by cases hb) q2) nd2

/-! ### pop at a place -/
def popAtL : List D → List D → Option (D × List D) := fun xs as => match as with
  | [.int i] => if -1000000 ≤ i ∧ i ≤ 1000000 then (match seqIndex? i xs.length with
    | some k => xs[k]?.map fun d => (d, xs.eraseIdx k)
    | none => none) else none
  | _ => none
theorem rels_erase : ∀ {xs : List D} {vs : List V} {B : List Addr} {k : Nat} {d : D}, Rels c F H xs vs B → xs[k]? = some d → ∃ v C B', vs[k]? = some v ∧ Rel c F H d v C ∧ Rels c F H (xs.eraseIdx k) (vs.eraseIdx k) B' ∧ (∀ b ∈ C ++ B', b ∈ B) ∧ (B.Nodup → (C ++ B').Nodup)
  | [], vs, B, k, d, r, e => by simp at e
  | x :: xs, vs, B, 0, d, r, e => by
    obtain ⟨v, ws, C1, C2, rfl, rfl, r1, r2⟩ := r
    have e : x = d := by simpa using e
    subst e
    exact ⟨v, C1, C2, rfl, r1, r2, fun b hb => hb, fun n => n⟩
  | x :: xs, vs, B, k + 1, d, r, e => by
    obtain ⟨v, ws, C1, C2, rfl, rfl, r1, r2⟩ := r
    obtain ⟨v2, C, B', h1, h2, h3, h4, h5⟩ := rels_erase (k := k) (d := d) r2 (by simpa using e)
    refine ⟨v2, C, C1 ++ B', by simpa using h1, h2, Rels.cons r1 h3, fun b hb => ?_, fun n => ?_⟩
    · rcases List.mem_append.mp hb with z | z
      · exact List.mem_append_right _ (h4 b (List.mem_append_left _ z))
      · rcases List.mem_append.mp z with z | z
        · exact List.mem_append_left _ z
        · exact List.mem_append_right _ (h4 b (List.mem_append_right _ z))
    · obtain ⟨n1, n2, n3⟩ := List.nodup_append.mp n
      obtain ⟨m1, m2, m3⟩ := List.nodup_append.mp (h5 n2)
      refine List.nodup_append.mpr ⟨m1, List.nodup_append.mpr ⟨n1, m2, fun x hx y hy => n3 x hx y (h4 y (List.mem_append_right _ hy))⟩, fun x hx y hy z => ?_⟩
      subst z
      rcases List.mem_append.mp hy with z | z
      · exact n3 x z x (h4 x (List.mem_append_left _ hx)) rfl
      · exact m3 x hx x z rfl
theorem popAt_ok : MtO c rPopAt popAtL := by
  refine ⟨fun {F H p vs us xs as ys A B d} ex hp hf r ra nd e => ?_⟩
  unfold popAtL at e
  split at e <;> first | (cases e; done) | skip
  rename_i i
  split at e <;> first | (cases e; done) | skip
  rename_i hb
  split at e <;> first | (cases e; done) | skip
  rename_i k hk
  cases e1 : xs[k]? with
  | none => rw [e1] at e; cases e
  | some d0 =>
    rw [e1] at e
    cases e
    obtain ⟨v0, ws0, D1, D2, rfl, rfl, q1, q2⟩ := ra
    obtain ⟨rfl, rfl⟩ := q1
    obtain ⟨rfl, rfl⟩ := q2
    obtain ⟨v, C, B', h1, h2, h3, h4, h5⟩ := rels_erase r e1
    have n2 := List.nodup_cons.mp (show (p :: B).Nodup from nd)
    refine ⟨v, vs.eraseIdx k, C, B', fun Q q => ⟨p, vs, i, k, v, rfl, rfl, hp, by omega, by omega, by rw [r.length]; exact hk, h1, q⟩, h2, h3, h5 n2.2, fun b hb => List.mem_append_right _ (h4 b hb)⟩
theorem t_popAt {i : Nat} {x : Str} {px apos cpos : Pos} (hN : X.N[i]? = some x) (ha : TrA X c (e :: es) g)
    (hv : Vis X.env.scope x := by first | exact Or.inl rfl | exact Or.inr (Or.inl rfl) | exact Or.inr (Or.inr rfl)) (hd : (x == ("__debug__" : Str)) = false := by decide) (hcd : (x == ("__classdict__" : Str)) = false := by decide)
    (hbase : attributeBase (.Name x px) "pop" X.env (eval (.Name x px) X.env) = eval (.Name x px) X.env := by rfl)
    (hfew : ((backTo cpos (starEach (e :: es) X.env)).all (fun x => !x.1) && (backToKw cpos (keywordEach [] X.env)).all (fun x => x.1.isSome)
      && decide ((e :: es).length + ([] : List Keyword).length + (if ([] : List Keyword).isEmpty then 0 else 1) < 30)) = true := by rfl)
    (hline : (apos.endLine == cpos.line) = true := by rfl) (hs : starEach (e :: es) X.env = (false, eval e X.env) :: starEach es X.env := by rfl) (hplain : (backTo cpos (starEach es X.env)).any (·.1) = false := by rfl) :
    Tr X c (.Call (.Attribute (.Name x px) "pop" apos) (e :: es) [] cpos) (mtD popAtL i g) :=
  t_mt popAt_ok PySem.F.slot_list_pop PySem.F.type_list_pop mt_popAt hN ha hv hd hcd hbase hfew hline hs hplain
end
end Y
end

section
set_option Elab.async false
set_option linter.all false
set_option maxRecDepth 100000
set_option maxHeartbeats 4000000
/-! Y17: three stores at once, join, suites. -/
namespace Y
open PySem PySem.Spec PyProof.Rows L2
section
variable {X : Cx} {c : Ctx} {a b d e : Expr} {rest es : List Expr} {f f1 f2 f3 : Den Hdl} {g : Den (List Hdl)} {pos : Pos} {F H : Hp}
/-! ### join -/
def strsOf : List D → Option (List Str)
  | [] => some []
  | .str s :: ds => (strsOf ds).map (s :: ·)
  | _ => none
def joinD (y : Str) (d : D) : Option D := match (itemsD d).bind strsOf with
  | some ys => if (ys.map (·.length)).sum + ys.length * y.length ≤ 16777216 then some (.str (Txt.join y ys)) else none
  | none => none
theorem strsOf_rel : ∀ {ds : List D} {ys : List Str} {vs : List V} {A : List Addr}, strsOf ds = some ys → Rels c F H ds vs A → vs = ys.map V.str
  | [], ys, vs, A, h, r => by cases h; obtain ⟨rfl, _⟩ := r; rfl
  | d :: ds, ys, vs, A, h, r => by
    cases d <;> first | (cases h; done) | skip
    rename_i s
    have h : (strsOf ds).map (s :: ·) = some ys := h
    cases e : strsOf ds with
    | none => rw [e] at h; cases h
    | some zs =>
      rw [e] at h
      cases h
      obtain ⟨v, ws, B, C, rfl, _, r1, r2⟩ := r
      obtain ⟨rfl, _⟩ := r1
      rw [strsOf_rel e r2]
      rfl
theorem join_sound {y : Str} : UoS c (fun x H Q => ∃ p, ∃ ys : List Str, [x] = [V.ref p] ∧ (SqL c.K H p (ys.map V.str) ∨ SqT c.K H p (ys.map V.str)) ∧ (ys.map (·.length)).sum + ys.length * y.length ≤ 16777216 ∧ Q (.str (Txt.join y ys)) H) (joinD y) := by
  refine ⟨rfl, fun {F H x dx A d Q} ex rx eg q => ?_⟩
  unfold joinD at eg
  cases h1 : itemsD dx with
  | none => rw [h1] at eg; cases eg
  | some xs =>
    rw [h1] at eg
    dsimp only [Option.bind] at eg
    cases h2 : strsOf xs with
    | none => rw [h2] at eg; cases eg
    | some ys =>
      rw [h2] at eg
      dsimp only at eg
      split at eg <;> cases eg
      rename_i hl
      obtain ⟨p, vs, B, rfl, hq, r, _⟩ := items_rel ex h1 rx
      rw [strsOf_rel h2 r] at hq
      exact ⟨p, ys, rfl, hq, hl, q _ _ _ [] (Grow.refl ex) ⟨rfl, rfl⟩⟩
theorem t_join {y : Str} {j : Nat} {p apos cpos : Pos} (hK : c.K = X.K) (ha : Tr X c e f)
    (hbase : attributeBase (.Constant (.str y) j p) "join" X.env (eval (.Constant (.str y) j p) X.env) = eval (.Constant (.str y) j p) X.env := by rfl)
    (hfew : ((backTo cpos (starEach [e] X.env)).all (fun x => !x.1) && (backToKw cpos (keywordEach [] X.env)).all (fun x => x.1.isSome)
      && decide ([e].length + ([] : List Keyword).length + (if ([] : List Keyword).isEmpty then 0 else 1) < 30)) = true := by rfl)
    (hline : (apos.endLine == cpos.line) = true := by rfl) (hs : starEach [e] X.env = (false, eval e X.env) :: starEach [] X.env := by rfl) (hplain : (backTo cpos (starEach [] X.env)).any (·.1) = false := by rfl) :
    Tr X c (.Call (.Attribute (.Constant (.str y) j p) "join" apos) [e] [] cpos) (uno (joinD y) f) := by
  refine ⟨fun W tk => pe_mono (pe_bm (T := "str") PySem.F.plainAttrs_str PySem.F.slot_str_join PySem.F.type_str_join mt_join pe_str (pa_cons (ha.pe W tk) pa_nil hs) hbase hfew hline hs hplain) fun σ H Q h => ?_⟩
  have h' := uno_sound join_sound h
  refine ⟨rfl, ?_⟩
  obtain ⟨τ, F, S, sa, h'⟩ := h'
  refine ⟨τ, F, S, sa, ?_⟩
  cases e1 : f τ with
  | bad => rw [e1] at h'; exact h'
  | ex n d τ' => rw [e1] at h'; exact h'
  | ok h1 τ1 =>
    rw [e1] at h'
    intro v1 F1 H1 A1 S1 g1 sa1 r1 nd1
    obtain ⟨p, ys, e2, e3, e4, q⟩ := h' v1 F1 H1 A1 S1 g1 sa1 r1 nd1
    exact ⟨y, p, ys, rfl, e2, by rw [← hK]; exact e3, e4, q⟩

/-! ### the suite -/
theorem zc_of {cls : Value} {d : Option Addr} {oe : Obj} (h : L2N.Zn cls d oe) : Zc cls d oe := ⟨h.1, h.2.1⟩
theorem hotC_of {a : Addr} {oe : Obj} {cls : Value} {d : Option Addr} {pn : List (Addr × Obj)} (hz : L2N.Zn cls d oe) (hf : ∃ vs, oe.data = .fields vs) : L2H.HotC (X.suite a ((a, oe) :: pn)) := by
  obtain ⟨vs, hv⟩ := hf
  exact ⟨(a, oe), ⟨rfl, vs, hv, hz.2.2 vs hv⟩, List.mem_cons_self⟩

/-! ### a, b, c = e1, e2, e3 -/
def sPar3 (i j l : Nat) (g : Den (List Hdl)) : SDen := fun τ => match g τ with
  | .ok [.val d, .val d2, .val d3] τ1 => .nx (((τ1.set i d).set j d2).set l d3)
  | .ok _ _ => .bad
  | .ex n d τ1 => .ex n d τ1
  | .bad => .bad
theorem s_par3 {i j l : Nat} {x y z : Str} {px py pz pt : Pos} {kt k2 pt2} (hc : X.calm = true) (hN : X.N.Nodup) (hi : X.N[i]? = some x) (hj : X.N[j]? = some y) (hl : X.N[l]? = some z) (hij : i ≠ j) (hil : i ≠ l) (hjl : j ≠ l)
    (hfi : c.fx i = false) (hfj : c.fx j = false) (hfl : c.fx l = false)
    (hx : X.env.scope.names.lookup x = some .local) (hy : X.env.scope.names.lookup y = some .local) (hz : X.env.scope.names.lookup z = some .local) (ha : TrA X c [a, b, d] g)
    (hw : swappedStores [.Tuple [.Name x px, .Name y py, .Name z pz] kt pt] (.Tuple [a, b, d] k2 pt2) X.env = pure (some [x, y, z]) := by rfl)
    (hs : swapsWithSole [.Tuple [.Name x px, .Name y py, .Name z pz] kt pt] (.Tuple [a, b, d] k2 pt2) pos.line X.env = pure false := by rfl) :
    Ts X c (.Assign [.Tuple [.Name x px, .Name y py, .Name z pz] kt pt] (.Tuple [a, b, d] k2 pt2) pos) (sPar3 i j l g) := by
  refine ⟨fun W tk => ps_mono (ps_par3 hc hN hi hj hl hij hil hjl hx hy hz (ha.pa W tk) hw hs) fun E σ H h => ?_⟩
  obtain ⟨τ, F, S, sa, h⟩ := h
  refine ⟨τ, F, S, sa, ?_⟩
  unfold sPar3 at h
  cases e1 : g τ with
  | bad => rw [e1] at h; exact h
  | ex n d τ' =>
    rw [e1] at h
    intro cv dx F' H' S' go sa' x
    exact (show PostS c W E F H S (.ex n d τ') from h) cv dx σ F' H' S' go sa' x
  | ok hs τ1 =>
    rw [e1] at h
    intro vs F1 H1 A1 S1 g1 sa1 r1 nd1
    match hs, h, r1 with
    | [], h, _ => exact h.elim
    | [.val _], h, _ => exact h.elim
    | [.val _, .val _], h, _ => exact h.elim
    | .slot _ :: _, h, _ => exact h.elim
    | .val _ :: .slot _ :: _, h, _ => exact h.elim
    | .val _ :: .val _ :: .slot _ :: _, h, _ => exact h.elim
    | .val _ :: .val _ :: .val _ :: _ :: _, h, _ => exact h.elim
    | [.val d, .val d2, .val d3], h, r1 =>
      obtain ⟨v, ws, B1, C1, rfl, rfl, q1, r2⟩ := r1
      obtain ⟨v2, ws2, B2, C2, rfl, rfl, q2, r3⟩ := r2
      obtain ⟨v3, ws3, B3, C3, rfl, rfl, q3, r4⟩ := r3
      obtain ⟨rfl, rfl⟩ := r4
      rw [List.append_nil] at nd1 g1
      have n1 := List.nodup_append.mp nd1
      have n2 := List.nodup_append.mp n1.1
      have n3 := List.nodup_append.mp n2.2.1
      obtain ⟨S2, sa2, hm2⟩ := sa1.put (i := i) (d := d) (v := v) (A := B1) q1 (List.nodup_append.mpr ⟨n2.1, n1.2.1, fun x hx y hy => n1.2.2 x (List.mem_append_left _ hx) y hy⟩) hfi
      obtain ⟨S3, sa3, hm3⟩ := sa2.put (i := j) (d := d2) (v := v2) (A := B2) q2 (List.nodup_append.mpr ⟨n3.1, sa2.nd, fun x hx y hy z => by
        subst z
        rcases List.mem_append.mp (hm2 x hy) with z | z
        · exact n2.2.2 x z x (List.mem_append_left _ hx) rfl
        · exact n1.2.2 x (List.mem_append_right _ (List.mem_append_left _ hx)) x z rfl⟩) hfj
      obtain ⟨S4, sa4, hm4⟩ := sa3.put (i := l) (d := d3) (v := v3) (A := B3) q3 (List.nodup_append.mpr ⟨n3.2.1, sa3.nd, fun x hx y hy z => by
        subst z
        rcases List.mem_append.mp (hm3 x hy) with z | z
        · exact n3.2.2 x z x hx rfl
        · rcases List.mem_append.mp (hm2 x z) with z | z
          · exact n2.2.2 x z x (List.mem_append_right _ hx) rfl
          · exact n1.2.2 x (List.mem_append_right _ (List.mem_append_right _ hx)) x z rfl⟩) hfl
      refine ⟨v, v2, v3, rfl, (show PostS c W E F H S (.nx (((τ1.set i d).set j d2).set l d3)) from h) _ F1 H1 S4 (Go.less g1 fun b hb => ?_) sa4⟩
      rcases List.mem_append.mp (hm4 b hb) with z | z
      · exact List.mem_append_left _ (List.mem_append_right _ (List.mem_append_right _ z))
      · rcases List.mem_append.mp (hm3 b z) with z | z
        · exact List.mem_append_left _ (List.mem_append_right _ (List.mem_append_left _ z))
        · rcases List.mem_append.mp (hm2 b z) with z | z
          · exact List.mem_append_left _ (List.mem_append_left _ z)
          · exact List.mem_append_right _ z
end
section
variable {P : Program} {w : World} {K : PySem.W.Frag} {mg : Str → Option Value} {base : Heap}
theorem okN {x qual : Str} {st : Stmt} {f : Addr} {fd : FuncData} {N ps : List Str} {k : Nat} {sp : Sp} (F : Fun K x qual st f fd) (S : FnScope N ps (defScope st)) (len : ∀ vs H Q E, sp vs H Q E → vs.length = ps.length)
    (hbody : ∀ (cdv : Value) (A : Around) (outer : List Env) (s : Shared) (H : Hp) (vs : List V) (Q : VK) (E : XK), Room k (A.deeper (envOfC qual (defScope st) s.heap.objs.size f cdv)) → sp vs H Q E →
      ∃ t, PSs (cxOf (L2N.CX P w) P w K mg base N qual (defScope st) f cdv A outer s H E) (defBody st) t ∧ t { nx := fun _ H' => Q .non H', rt := Q } (start N vs) H) : FnOk P w K mg base (L2N.CX P w) (k + 1) f fd ps sp := by
  obtain ⟨oc, od, kV, doc, pm, an, cdv, ct, osl, rfl, lk, hcd⟩ := F.ex
  exact fn_of lk hcd S len fun A outer s H vs Q E hr hsp => hbody cdv A outer s H vs Q E hr hsp
end
/-! ### a comprehension within one -/
theorem relabel_cf {env : Env} : ∀ {names : List (Str × NameKind)} {x : Str}, (names.lookup x = some .cell ∨ names.lookup x = some .free) →
    (names.map fun (n, k) => if (k == NameKind.free && env.scope.kind == .function && env.kindOf n == some .cell) then (n, NameKind.cell) else (n, k)).lookup x = some .cell ∨
    (names.map fun (n, k) => if (k == NameKind.free && env.scope.kind == .function && env.kindOf n == some .cell) then (n, NameKind.cell) else (n, k)).lookup x = some .free
  | [], x, h => by simp at h
  | (n, k) :: r, x, h => by
    have ih := @relabel_cf env r x
    rw [List.map_cons]
    cases hx : x == n with
    | true =>
      simp only [List.lookup_cons, hx] at h
      have h : k = .cell ∨ k = .free := h.elim (fun z => .inl (Option.some.inj z)) (fun z => .inr (Option.some.inj z))
      show List.lookup x ((if (k == NameKind.free && env.scope.kind == .function && env.kindOf n == some .cell) = true then (n, NameKind.cell) else (n, k)) :: _) = _ ∨ List.lookup x ((if (k == NameKind.free && env.scope.kind == .function && env.kindOf n == some .cell) = true then (n, NameKind.cell) else (n, k)) :: _) = _
      split
      · left
        simp only [List.lookup_cons, hx]
      · simp only [List.lookup_cons, hx]
        exact h.elim (fun z => .inl (congrArg some z)) (fun z => .inr (congrArg some z))
    | false =>
      simp only [List.lookup_cons, hx] at h
      show List.lookup x ((if (k == NameKind.free && env.scope.kind == .function && env.kindOf n == some .cell) = true then (n, NameKind.cell) else (n, k)) :: _) = _ ∨ List.lookup x ((if (k == NameKind.free && env.scope.kind == .function && env.kindOf n == some .cell) = true then (n, NameKind.cell) else (n, k)) :: _) = _
      split
      · simp only [List.lookup_cons, hx]
        exact ih h
      · simp only [List.lookup_cons, hx]
        exact ih h
theorem blkOk_nest {N : List Str} {sc scope : Scope} {own : List (Str × Nat)} {env : Env} (h : blkC N sc scope own = true) : BlkOk N (relabel sc env) scope own := by
  have ok := blkOk_by h
  exact ⟨ok.kind, ok.uniq, ok.ix, fun y hy e => relabel_cf (ok.free y hy e), ok.own⟩
/-! ### a value that nobody writes to from now on -/
def fz (f : Den Hdl) : Den Hdl := fun τ => (f τ).bind fun h τ1 => match h with
  | .val d => .ok (.val d.frz) τ1
  | .slot i => .ok (.slot i) τ1
section
variable {X : Cx} {c : Ctx} {e : Expr} {f : Den Hdl}
theorem t_fz (ha : Tr X c e f) : Tr X c e (fz f) := by
  refine ⟨fun W tk => pe_mono (ha.pe W tk) fun σ H Q h => ?_⟩
  obtain ⟨τ, F, S, sa, h⟩ := h
  refine ⟨τ, F, S, sa, ?_⟩
  unfold fz at h
  cases e1 : f τ with
  | bad => rw [e1] at h; exact h
  | ex n d τ' => rw [e1] at h; exact h
  | ok h1 τ1 =>
    rw [e1] at h
    intro v1 F1 H1 A1 S1 g1 sa1 r1 nd1
    cases h1 with
    | slot i => exact (show Post c (fun F H => RelH c F H σ) W F H σ S Q (.ok (.slot i) τ1) from h) v1 F1 H1 A1 S1 g1 sa1 r1 nd1
    | val d =>
      obtain ⟨F2, hF, g2, sa2, r2⟩ := sa1.frzA r1 nd1
      exact (show Post c (fun F H => RelH c F H σ) W F H σ S Q (.ok (.val d.frz) τ1) from h) v1 F2 H1 [] S1 (Go.trans0 g1 g2) sa2 r2 sa2.nd
end
/-! ### a, b = a tuple or a list -/
def gU (n : Nat) (u : List D → List D → Option (List D)) : D → List D → Option (List D) := fun d τ => match d with
  | .tup ds => if ds.length = n then u ds τ else none
  | .lst _ ds => if ds.length = n then u ds τ else none
  | _ => none
section
variable {X : Cx} {c : Ctx} {es : List Expr} {u : List D → List D → Option (List D)} {pos : Pos}
theorem pg_un {k n : Nat} {t : TGs} (hc : X.calm = true) (h : PGs X es t) (hn : (assignEach es X.env).length = n := by rfl) (hst : (assignEach es X.env).findIdx? (·.1) = none := by rfl) :
    PG X (.Tuple es k pos) (fun v σ H Q => gTup X.K n t v σ H Q ∨ gLst X.K n t v σ H Q) :=
  ⟨fun pins s σ H v u Q I r hw => hw.elim ((pg_tup hc h hn hst).run pins s σ H v u Q I r) ((pg_lst hc h hn hst).run pins s σ H v u Q I r)⟩
theorem g_un {k n : Nat} {ow : List Nat} (hK : c.K = X.K) (hc : X.calm = true) (h : TrGs X c es ow u) (hn : (assignEach es X.env).length = n := by rfl) (hst : (assignEach es X.env).findIdx? (·.1) = none := by rfl) : TrG X c (.Tuple es k pos) ow (gU n u) := by
  refine ⟨pg_mono (pg_un hc h.pgs hn hst) fun v σ H Q h => ?_⟩
  obtain ⟨τ, F, S, d, A, sa, r, nd, τ', e, q⟩ := h
  cases d <;> first | (cases e; done) | skip
  case tup ds =>
    have e : (if ds.length = n then u ds τ else none) = some τ' := e
    split at e <;> first | (cases e; done) | skip
    rename_i hl
    obtain ⟨p, vs, rfl, h1, r⟩ := r
    exact .inl ⟨p, vs, rfl, by rw [← hK]; exact sqT_sub sa.ex h1, by rw [r.length]; exact hl, τ, F, S, ds, A, sa, r, nd, τ', e, q⟩
  case lst o ds =>
    have e2 : (if ds.length = n then u ds τ else none) = some τ' := e
    clear e
    split at e2 <;> first | (cases e2; done) | skip
    rename_i hl
    cases o with
    | true =>
      obtain ⟨p, vs, B, rfl, h1, h2, rfl, r⟩ := r
      have n2 := List.nodup_cons.mp (show (p :: (B ++ S)).Nodup from nd)
      exact .inr ⟨p, vs, rfl, .inl (.inl h1), by rw [r.length]; exact hl, τ, F, S, ds, B, sa, r, n2.2, τ', e2, fun σ' S' sa' hm kp => q σ' S' sa' (fun b hb => List.mem_cons_of_mem _ (hm b hb)) kp⟩
    | false =>
      obtain ⟨p, vs, rfl, h1, rfl, r⟩ := r
      exact .inr ⟨p, vs, rfl, .inl (.inl (sa.ex _ _ h1)), by rw [r.length]; exact hl, τ, F, S, ds, [], sa, r, nd, τ', e2, q⟩
end
end Y
end

section
set_option Elab.async false
set_option linter.all false
set_option maxRecDepth 100000
set_option maxHeartbeats 1000000
/-! Z0: plain reasoning over what the layer prints: plain data, slots, loops, comprehensions. -/
namespace Y
open PySem
def D.isUn : D → Bool
  | .un => true
  | _ => false
@[simp] theorem isUn_un : D.isUn .un = true := rfl
@[simp] theorem isUn_non : D.isUn .non = false := rfl
@[simp] theorem isUn_bl {b : Bool} : D.isUn (.bl b) = false := rfl
@[simp] theorem isUn_int {i : Int} : D.isUn (.int i) = false := rfl
@[simp] theorem isUn_str {s : Str} : D.isUn (.str s) = false := rfl
@[simp] theorem isUn_tup {ds : List D} : D.isUn (.tup ds) = false := rfl
@[simp] theorem isUn_lst {o : Bool} {ds : List D} : D.isUn (.lst o ds) = false := rfl
@[simp] theorem isUn_dct {o : Bool} {ks : List L2.Key} {ds : List D} : D.isUn (.dct o ks ds) = false := rfl
@[simp] theorem isUn_scr {ns : List Int} : D.isUn (.scr ns) = false := rfl
@[simp] theorem isUn_tok {d : D} : D.isUn (.tok d) = false := rfl
@[simp] theorem isUn_tex {n : Str} {d : D} : D.isUn (.tex n d) = false := rfl
@[simp] theorem nkU_un : nkU .un = true := rfl
@[simp] theorem nkU_non : nkU .non = true := rfl
@[simp] theorem nkU_bl {b : Bool} : nkU (.bl b) = true := rfl
@[simp] theorem nkU_int {i : Int} : nkU (.int i) = true := rfl
@[simp] theorem nkU_str {s : Str} : nkU (.str s) = true := rfl
@[simp] theorem nkU_scr {ns : List Int} : nkU (.scr ns) = true := rfl
@[simp] theorem nkU_tup {ds : List D} : nkU (.tup ds) = D.nks ds := rfl
@[simp] theorem nkU_lst {o : Bool} {ds : List D} : nkU (.lst o ds) = D.nks ds := rfl
@[simp] theorem nkU_dct {o : Bool} {ks : List L2.Key} {ds : List D} : nkU (.dct o ks ds) = D.nks ds := rfl
mutual
/-- plain data that nobody writes to -/
def gd : D → Bool
  | .non => true
  | .bl _ => true
  | .int _ => true
  | .str _ => true
  | .tup ds => gds ds
  | .lst false ds => gds ds
  | _ => false
def gds : List D → Bool
  | [] => true
  | d :: ds => gd d && gds ds
end
mutual
def sz : D → Nat
  | .tup ds => szs ds + 1
  | .lst _ ds => szs ds + 1
  | _ => 1
def szs : List D → Nat
  | [] => 0
  | d :: ds => sz d + szs ds
end
theorem gds_cons {x : D} {xs : List D} : gds (x :: xs) = (gd x && gds xs) := rfl
theorem gds_append : ∀ {xs ys : List D}, gds (xs ++ ys) = (gds xs && gds ys)
  | [], ys => by simp [gds]
  | x :: xs, ys => by
    show (gd x && gds (xs ++ ys)) = (gd x && gds xs && gds ys)
    rw [gds_append, Bool.and_assoc]
theorem szs_append : ∀ {xs ys : List D}, szs (xs ++ ys) = szs xs + szs ys
  | [], ys => by simp [szs]
  | x :: xs, ys => by
    show sz x + szs (xs ++ ys) = sz x + szs xs + szs ys
    rw [szs_append, Nat.add_assoc]
theorem sz_pos : ∀ d : D, 1 ≤ sz d := fun d => by
  cases d <;> simp [sz]
theorem szs_len : ∀ ds : List D, ds.length ≤ szs ds
  | [] => Nat.le_refl _
  | d :: ds => by
    have := szs_len ds
    have := sz_pos d
    simp [szs]
    omega
theorem gds_at : ∀ {ds : List D} {d : D}, gds ds = true → d ∈ ds → gd d = true
  | x :: ds, d, h, hd => by
    have h : (gd x && gds ds) = true := h
    rw [Bool.and_eq_true] at h
    rcases List.mem_cons.mp hd with rfl | hd
    · exact h.1
    · exact gds_at h.2 hd
theorem gds_of : ∀ {ds : List D}, (∀ d ∈ ds, gd d = true) → gds ds = true
  | [], _ => rfl
  | d :: ds, h => by
    show (gd d && gds ds) = true
    rw [h d List.mem_cons_self, gds_of fun e he => h e (List.mem_cons_of_mem _ he)]
    rfl
mutual
theorem gd_pl : ∀ {d : D}, gd d = true → d.pl = true
  | .non, _ => rfl
  | .bl _, _ => rfl
  | .int _, _ => rfl
  | .str _, _ => rfl
  | .tup ds, h => by
    show D.pls ds = true
    exact gds_pl h
  | .lst false ds, h => by
    show D.pls ds = true
    exact gds_pl h
theorem gds_pl : ∀ {ds : List D}, gds ds = true → D.pls ds = true
  | [], _ => rfl
  | d :: ds, h => by
    have h : (gd d && gds ds) = true := h
    rw [Bool.and_eq_true] at h
    show (d.pl && D.pls ds) = true
    rw [gd_pl h.1, gds_pl h.2]
    rfl
end
mutual
theorem gd_frz : ∀ {d : D}, gd d = true → d.frz = d
  | .non, _ => rfl
  | .bl _, _ => rfl
  | .int _, _ => rfl
  | .str _, _ => rfl
  | .tup ds, h => by
    show D.tup (D.frzs ds) = _
    rw [gds_frz h]
  | .lst false ds, h => by
    show D.lst false (D.frzs ds) = _
    rw [gds_frz h]
theorem gds_frz : ∀ {ds : List D}, gds ds = true → D.frzs ds = ds
  | [], _ => rfl
  | d :: ds, h => by
    have h : (gd d && gds ds) = true := h
    rw [Bool.and_eq_true] at h
    show d.frz :: D.frzs ds = _
    rw [gd_frz h.1, gds_frz h.2]
end
mutual
theorem gd_nk : ∀ {d : D}, gd d = true → d.nk = true
  | .non, _ => rfl
  | .bl _, _ => rfl
  | .int _, _ => rfl
  | .str _, _ => rfl
  | .tup ds, h => by
    show D.nks ds = true
    exact gds_nk h
  | .lst false ds, h => by
    show D.nks ds = true
    exact gds_nk h
theorem gds_nk : ∀ {ds : List D}, gds ds = true → D.nks ds = true
  | [], _ => rfl
  | d :: ds, h => by
    have h : (gd d && gds ds) = true := h
    rw [Bool.and_eq_true] at h
    show (d.nk && D.nks ds) = true
    rw [gd_nk h.1, gds_nk h.2]
    rfl
end
theorem gd_un {d : D} (h : gd d = true) : d.isUn = false := by cases d <;> first | rfl | cases h
theorem gd_nku {d : D} (h : gd d = true) : nkU d = true := by
  have := gd_nk h
  cases d <;> first | exact this | rfl
theorem gd_isN {d : D} (h : gd d = true) : isNB d = some (match d with | .non => true | _ => false) := by
  cases d <;> first | rfl | cases h
/-- all that an evaluation wants of a plain thing -/
structure Gd (d : D) : Prop where
  un : d.isUn = false
  pl : d.pl = true
  nk : d.nk = true
  frz : d.frz = d
  nku : nkU d = true
theorem gd_ok {d : D} (h : gd d = true) : Gd d := ⟨gd_un h, gd_pl h, gd_nk h, gd_frz h, gd_nku h⟩
/-! ### equations that look at a slot by its flag alone -/
theorem nm_eq {i : Nat} {τ : List D} : nm i τ = if ((τ[i]?).getD .un).isUn = true then .bad else .ok (.slot i) τ := by
  unfold nm
  cases h : τ[i]? with
  | none => rfl
  | some d => cases d <;> rfl
theorem vl_eq {i : Nat} {τ : List D} : vl i τ = if ((τ[i]?).getD .un).isUn = true then .bad else .ok (.val ((τ[i]?).getD .un).frz) (τ.set i ((τ[i]?).getD .un).frz) := by
  unfold vl
  cases h : τ[i]? with
  | none => rfl
  | some d => cases d <;> rfl
theorem okA_nil {τ : List D} : okA τ [] = true := rfl
theorem okA_val {τ : List D} {d : D} {hs : List Hdl} : okA τ (.val d :: hs) = okA τ hs := rfl
theorem okA_slot {τ : List D} {i : Nat} {hs : List Hdl} : okA τ (.slot i :: hs) = (!((τ[i]?).getD .un).isUn && (((τ[i]?).getD .un).pl || !(hs.any fun h => match h with
      | .slot j => i == j
      | .val _ => false)) && okA τ hs) := by
  conv => lhs; unfold okA
  cases h : τ[i]? with
  | none => rfl
  | some d => cases d <;> rfl
theorem frzAll_nil {τ : List D} : frzAll [] τ = some τ := rfl
theorem frzAll_cons {i : Nat} {cap : List Nat} {τ : List D} : frzAll (i :: cap) τ = if (!((τ[i]?).getD .un).isUn && ((τ[i]?).getD .un).nk) = true then frzAll cap (τ.set i ((τ[i]?).getD .un).frz) else none := by
  conv => lhs; unfold frzAll
  cases h : τ[i]? with
  | none => rfl
  | some d => cases d <;> rfl
def retS (i : Nat) (τ : List D) : Fl := if ((τ[i]?).getD .un).isUn = true then .bad else .rt ((τ[i]?).getD .un) (τ.set i .un)
theorem ret_eq {f : Den Hdl} {τ : List D} : sRet f τ = onE (f τ) fun h τ1 => match h with
  | .val d => .rt d τ1
  | .slot i => retS i τ1 := by
  unfold sRet
  congr 1
  funext h τ1
  cases h with
  | val d => rfl
  | slot i =>
    unfold retS
    dsimp only
    cases h : τ1[i]? with
    | none => rfl
    | some d => cases d <;> rfl
theorem bin_eq {g : D → D → Option D} {f1 f2 : Den Hdl} {τ : List D} : bin g f1 f2 τ = (f1 τ).bind fun h1 τ1 => (f2 τ1).bind fun h2 τ2 => match g (h1.get τ2) (h2.get τ2) with
  | some d => .ok (.val d) τ2
  | none => .bad := rfl
/-! ### statements one behind another -/
section
variable {f g : SDen} {τ τ1 : List D}
theorem sq_nx (h : f τ = .nx τ1) : sq f g τ = g τ1 := by
  unfold sq
  rw [h]
theorem sq_rt {d : D} (h : f τ = .rt d τ1) : sq f g τ = .rt d τ1 := by
  unfold sq
  rw [h]
theorem sq_ex {n : Str} {d : D} (h : f τ = .ex n d τ1) : sq f g τ = .ex n d τ1 := by
  unfold sq
  rw [h]
theorem for_of {src : Den (List D)} {t : D → List D → Option (List D)} {ds : List D} (h : src τ = .ok ds τ1) : sFor src t f τ = forL t f ds τ1 := by
  unfold sFor
  rw [h]
theorem set_of {i : Nat} {e : Den Hdl} {d : D} (h : e τ = .ok (.val d) τ1) : sSet i e τ = .nx (τ1.set i d) := by
  unfold sSet
  rw [h]
  rfl
theorem if_t {t : Den Bool} {a b : SDen} (h : t τ = .ok true τ1) : sIf t a b τ = a τ1 := by
  unfold sIf
  rw [h]
  rfl
theorem if_f {t : Den Bool} {a b : SDen} (h : t τ = .ok false τ1) : sIf t a b τ = b τ1 := by
  unfold sIf
  rw [h]
  rfl
end
/-! ### defs -/
/-- what a def's body tells -/
theorem nk0_ok {np n : Nat} {fx : Nat → Bool} {body : SDen} {args : List D} {d : D} {τ : List D} (hl : args.length = np) (ha : D.nks args = true) (hb : body (args ++ List.replicate (n - args.length) .un) = .rt d τ) (hd : d.nk = true) (ho : (outD fx 0 args.length τ).all nkU = true) :
    nk0 (fnD np n fx body) args = .ok d (outD fx 0 args.length τ) := by
  have h4 : fnD np n fx body args = .ok d (outD fx 0 args.length τ) := by
    unfold fnD
    rw [if_pos hl, hb]
    show (if d.nk = true then _ else _) = _
    rw [if_pos hd]
  unfold nk0
  rw [if_pos ha, h4]
  show (if (d.nk && (outD fx 0 args.length τ).all nkU) = true then _ else _) = _
  rw [hd, ho]
  rfl
theorem nk0_nx {np n : Nat} {fx : Nat → Bool} {body : SDen} {args : List D} {τ : List D} (hl : args.length = np) (ha : D.nks args = true) (hb : body (args ++ List.replicate (n - args.length) .un) = .nx τ) (ho : (outD fx 0 args.length τ).all nkU = true) :
    nk0 (fnD np n fx body) args = .ok .non (outD fx 0 args.length τ) := by
  have h4 : fnD np n fx body args = .ok .non (outD fx 0 args.length τ) := by
    unfold fnD
    rw [if_pos hl, hb]
  unfold nk0
  rw [if_pos ha, h4]
  show (if (D.non.nk && (outD fx 0 args.length τ).all nkU) = true then _ else _) = _
  rw [ho]
  rfl
theorem nk0_ex {np n : Nat} {fx : Nat → Bool} {body : SDen} {args : List D} {c : Str} {d : D} {τ : List D} (hl : args.length = np) (ha : D.nks args = true) (hb : body (args ++ List.replicate (n - args.length) .un) = .ex c d τ) (hd : d.nk = true) :
    nk0 (fnD np n fx body) args = .ex c d := by
  have h4 : fnD np n fx body args = .ex c d := by
    unfold fnD
    rw [if_pos hl, hb]
    show (if d.nk = true then _ else _) = _
    rw [if_pos hd]
  unfold nk0
  rw [if_pos ha, h4]
  show (if d.nk = true then _ else _) = _
  rw [if_pos hd]
/-! ### loops -/
section
variable {t : Den Bool} {p : SDen} {τ τ1 τ2 : List D} {m : Nat}
theorem sWhile_stop (h : t τ = .ok false τ1) : sWhile (m + 1) t p τ = .nx τ1 := by
  unfold sWhile
  rw [h]
  rfl
theorem sWhile_go (h : t τ = .ok true τ1) (h2 : p τ1 = .nx τ2) : sWhile (m + 1) t p τ = sWhile m t p τ2 := by
  conv => lhs; unfold sWhile
  rw [h]
  simp only [onT, if_true, h2]
theorem sWhile_rt {d : D} (h : t τ = .ok true τ1) (h2 : p τ1 = .rt d τ2) : sWhile (m + 1) t p τ = .rt d τ2 := by
  conv => lhs; unfold sWhile
  rw [h]
  simp only [onT, if_true, h2]
variable {g : D → List D → Option (List D)}
theorem forL_nil : forL g p [] τ = .nx τ := by
  unfold forL
  rfl
theorem forL_go {d : D} {ds : List D} (h : g d τ = some τ1) (h2 : p τ1 = .nx τ2) : forL g p (d :: ds) τ = forL g p ds τ2 := by
  conv => lhs; unfold forL
  rw [h]
  simp only [h2]
theorem forL_ct {d : D} {ds : List D} (h : g d τ = some τ1) (h2 : p τ1 = .ct τ2) : forL g p (d :: ds) τ = forL g p ds τ2 := by
  conv => lhs; unfold forL
  rw [h]
  simp only [h2]
theorem forL_rt {d e : D} {ds : List D} (h : g d τ = some τ1) (h2 : p τ1 = .rt e τ2) : forL g p (d :: ds) τ = .rt e τ2 := by
  conv => lhs; unfold forL
  rw [h]
  simp only [h2]
theorem forL_ex {d e : D} {n : Str} {ds : List D} (h : g d τ = some τ1) (h2 : p τ1 = .ex n e τ2) : forL g p (d :: ds) τ = .ex n e τ2 := by
  conv => lhs; unfold forL
  rw [h]
  simp only [h2]
theorem forL_bk {d : D} {ds : List D} (h : g d τ = some τ1) (h2 : p τ1 = .bk τ2) : forL g p (d :: ds) τ = .nx τ2 := by
  conv => lhs; unfold forL
  rw [h]
  simp only [h2]
/-- a loop by an invariant over the turn -/
theorem forL_inv {ds : List D} (I : Nat → List D → Prop) (step : ∀ k d τ, ds[k]? = some d → I k τ → ∃ τ1 τ2, g d τ = some τ1 ∧ (p τ1 = .nx τ2 ∨ p τ1 = .ct τ2) ∧ I (k + 1) τ2) (h0 : I 0 τ) : ∃ τ', forL g p ds τ = .nx τ' ∧ I ds.length τ' := by
  have go : ∀ (es : List D) (k : Nat) (τ : List D), (∀ j, ds[k + j]? = es[j]?) → I k τ → ∃ τ', forL g p es τ = .nx τ' ∧ I (k + es.length) τ' := by
    intro es
    induction es with
    | nil => exact fun k τ _ h => ⟨τ, forL_nil, h⟩
    | cons e es ih =>
      intro k τ hk h
      obtain ⟨τ1, τ2, h1, h2, h3⟩ := step k e τ (by simpa using hk 0) h
      obtain ⟨τ', e1, e2⟩ := ih (k + 1) τ2 (fun j => by have := hk (j + 1); rw [Nat.add_assoc, Nat.add_comm 1 j]; simpa using this) h3
      refine ⟨τ', ?_, by rw [List.length_cons, Nat.add_comm es.length 1, ← Nat.add_assoc]; exact e2⟩
      rcases h2 with h2 | h2
      · rw [forL_go h1 h2, e1]
      · rw [forL_ct h1 h2, e1]
  obtain ⟨τ', e1, e2⟩ := go ds 0 τ (fun j => by rw [Nat.zero_add]) h0
  exact ⟨τ', e1, by rw [Nat.zero_add] at e2; exact e2⟩
end
/-! ### comprehensions -/
section
variable {t : D → List D → Option (List D)} {q : Den Bool} {f : Den Hdl} {ow : List Nat} {τ τ1 τ2 τ3 acc0 : List D} {src : Den (List D)}
theorem lcL_yes {d d' : D} {ds acc : List D} (h1 : t d (wipeD τ ow) = some τ1) (h2 : q τ1 = .ok true τ2) (h3 : f τ2 = .ok (.val d') τ3) (hl : acc.length ≤ 100000) : lcL t q f ow (d :: ds) acc τ = lcL t q f ow ds (acc ++ [d']) τ3 := by
  conv => lhs; unfold lcL
  simp only [h1, h2, h3, hl, if_true]
theorem lcL_no {d : D} {ds acc : List D} (h1 : t d (wipeD τ ow) = some τ1) (h2 : q τ1 = .ok false τ2) : lcL t q f ow (d :: ds) acc τ = lcL t q f ow ds acc τ2 := by
  conv => lhs; unfold lcL
  simp only [h1, h2]
theorem lcL_nil {acc : List D} : lcL t q f ow [] acc τ = .ok acc τ := by unfold lcL; rfl
/-- by an invariant over the turn, what is made so far, the slots -/
theorem lcL_inv {ds : List D} (I : Nat → List D → List D → Prop) (hlen : ds.length ≤ 100000) (hI : ∀ k acc τ, I k acc τ → acc.length ≤ k)
    (step : ∀ k d acc τ, ds[k]? = some d → I k acc τ → ∃ τ1, t d (wipeD τ ow) = some τ1 ∧ ((∃ τ2, q τ1 = .ok false τ2 ∧ I (k + 1) acc τ2) ∨ ∃ τ2 d' τ3, q τ1 = .ok true τ2 ∧ f τ2 = .ok (.val d') τ3 ∧ I (k + 1) (acc ++ [d']) τ3))
    (h0 : I 0 [] τ) : ∃ acc τ', lcL t q f ow ds [] τ = .ok acc τ' ∧ I ds.length acc τ' := by
  have go : ∀ (es : List D) (k : Nat) (acc τ : List D), (∀ j, ds[k + j]? = es[j]?) → k + es.length ≤ ds.length → I k acc τ → ∃ acc' τ', lcL t q f ow es acc τ = .ok acc' τ' ∧ I (k + es.length) acc' τ' := by
    intro es
    induction es with
    | nil => exact fun k acc τ _ _ h => ⟨acc, τ, lcL_nil, h⟩
    | cons e es ih =>
      intro k acc τ hk hl h
      rw [List.length_cons] at hl
      obtain ⟨τ1, h1, h2⟩ := step k e acc τ (by simpa using hk 0) h
      have hk' : ∀ j, ds[k + 1 + j]? = es[j]? := fun j => by have := hk (j + 1); rw [Nat.add_assoc, Nat.add_comm 1 j]; simpa using this
      have hc : k + (e :: es).length = k + 1 + es.length := by rw [List.length_cons]; omega
      rcases h2 with ⟨τ2, h2, h3⟩ | ⟨τ2, d', τ3, h2, h3, h4⟩
      · obtain ⟨acc', τ', e1, e2⟩ := ih (k + 1) acc τ2 hk' (by omega) h3
        exact ⟨acc', τ', by rw [lcL_no h1 h2, e1], by rw [hc]; exact e2⟩
      · obtain ⟨acc', τ', e1, e2⟩ := ih (k + 1) (acc ++ [d']) τ3 hk' (by omega) h4
        have := hI _ _ _ h
        exact ⟨acc', τ', by rw [lcL_yes h1 h2 h3 (by omega), e1], by rw [hc]; exact e2⟩
  obtain ⟨acc, τ', e1, e2⟩ := go ds 0 [] τ (fun j => by rw [Nat.zero_add]) (by omega) h0
  exact ⟨acc, τ', e1, by rw [Nat.zero_add] at e2; exact e2⟩
/-- nothing but the block's own slots changes: a filter and a map -/
theorem lcL_map {ds : List D} (P : D → Bool) (G : D → D) (hlen : ds.length ≤ 100000)
    (step : ∀ d ∈ ds, ∃ τ1, t d (wipeD τ ow) = some τ1 ∧ q τ1 = .ok (P d) τ1 ∧ (P d = true → f τ1 = .ok (.val (G d)) τ1) ∧ wipeD τ1 ow = wipeD τ ow) :
    ∃ τ', lcL t q f ow ds [] τ = .ok ((ds.filter P).map G) τ' ∧ wipeD τ' ow = wipeD τ ow := by
  have go : ∀ (es acc : List D) (τ' : List D), (∀ e ∈ es, e ∈ ds) → acc.length + es.length ≤ 100000 → wipeD τ' ow = wipeD τ ow → ∃ τ2, lcL t q f ow es acc τ' = .ok (acc ++ (es.filter P).map G) τ2 ∧ wipeD τ2 ow = wipeD τ ow := by
    intro es
    induction es with
    | nil => exact fun acc τ' _ _ h => ⟨τ', by rw [lcL_nil]; simp, h⟩
    | cons e es ih =>
      intro acc τ' hm hl hw
      rw [List.length_cons] at hl
      obtain ⟨τ1, h1, h2, h3, h4⟩ := step e (hm e List.mem_cons_self)
      rw [← hw] at h1
      cases hp : P e with
      | true =>
        rw [hp] at h2
        obtain ⟨τ2, e1, e2⟩ := ih (acc ++ [G e]) τ1 (fun x hx => hm x (List.mem_cons_of_mem _ hx)) (by simp; omega) h4
        refine ⟨τ2, ?_, e2⟩
        rw [lcL_yes h1 h2 (h3 hp) (by omega), e1, List.filter_cons_of_pos hp, List.map_cons, List.append_assoc, List.singleton_append]
      | false =>
        rw [hp] at h2
        obtain ⟨τ2, e1, e2⟩ := ih acc τ1 (fun x hx => hm x (List.mem_cons_of_mem _ hx)) (by omega) h4
        refine ⟨τ2, ?_, e2⟩
        rw [lcL_no h1 h2, e1, List.filter_cons_of_neg (by rw [hp]; exact Bool.false_ne_true)]
  obtain ⟨τ2, e1, e2⟩ := go ds [] τ (fun e h => h) (by simp; omega) rfl
  exact ⟨τ2, by rw [e1, List.nil_append], e2⟩
theorem lcE_of {ds acc : List D} (hs : src τ = .ok ds τ1) (h : lcL t q f ow ds [] τ1 = .ok acc τ2) : lcE src t q f ow τ = .ok (.val (.lst true acc)) (backD τ1 (wipeD τ2 ow) ow) := by
  unfold lcE
  rw [hs]
  simp only [h]
theorem lcE_map {ds : List D} (P : D → Bool) (G : D → D) (hs : src τ = .ok ds τ1) (hlen : ds.length ≤ 100000)
    (step : ∀ d ∈ ds, ∃ τ2, t d (wipeD τ1 ow) = some τ2 ∧ q τ2 = .ok (P d) τ2 ∧ (P d = true → f τ2 = .ok (.val (G d)) τ2) ∧ wipeD τ2 ow = wipeD τ1 ow) :
    lcE src t q f ow τ = .ok (.val (.lst true ((ds.filter P).map G))) (backD τ1 (wipeD τ1 ow) ow) := by
  obtain ⟨τ2, e1, e2⟩ := lcL_map (τ := τ1) P G hlen step
  rw [lcE_of hs e1, e2]
/-- .. without a test -/
theorem lcE_all {ds : List D} (G : D → D) (hs : src τ = .ok ds τ1) (hlen : ds.length ≤ 100000)
    (step : ∀ d ∈ ds, ∃ τ2, t d (wipeD τ1 ow) = some τ2 ∧ f τ2 = .ok (.val (G d)) τ2 ∧ wipeD τ2 ow = wipeD τ1 ow) :
    lcE src t yesT f ow τ = .ok (.val (.lst true (ds.map G))) (backD τ1 (wipeD τ1 ow) ow) := by
  have := lcE_map (src := src) (t := t) (q := yesT) (f := f) (ow := ow) (τ := τ) (τ1 := τ1) (ds := ds) (fun _ => true) G hs hlen fun d hd => let ⟨τ2, h1, h2, h3⟩ := step d hd; ⟨τ2, h1, rfl, fun _ => h2, h3⟩
  rw [this, List.filter_eq_self.mpr fun _ _ => rfl]
end
/-! ### ranges -/
theorem rgD_eq (n : Nat) : rgD 0 1 n = (List.range n).map fun (k : Nat) => D.int (k : Int) := by
  unfold rgD
  congr 1
  funext k
  have : (0 : Int) + (k : Nat) * 1 = (k : Int) := by omega
  rw [this]
theorem rgD_eqL (lo : Int) (n : Nat) : rgD lo 1 n = (List.range n).map fun (k : Nat) => D.int (lo + (k : Int)) := by
  unfold rgD
  congr 1
  funext k
  have : lo + (k : Nat) * 1 = lo + (k : Int) := by omega
  rw [this]
theorem intOf_val {τ : List D} {i : Int} (h : -1000000000 ≤ i ∧ i ≤ 1000000000) : intOf (.val (.int i)) τ = some i := by
  have : inRg i = true := by
    unfold inRg
    rw [Bool.and_eq_true]
    exact ⟨decide_eq_true h.1, decide_eq_true h.2⟩
  show (if inRg i = true then _ else _) = _
  rw [if_pos this]
theorem intOf_get {τ : List D} {h : Hdl} {i : Int} (e : h.get τ = .int i) (hb : -1000000000 ≤ i ∧ i ≤ 1000000000) : intOf h τ = some i := by
  have : inRg i = true := by
    unfold inRg
    rw [Bool.and_eq_true]
    exact ⟨decide_eq_true hb.1, decide_eq_true hb.2⟩
  unfold intOf
  rw [e]
  show (if inRg i = true then _ else _) = _
  rw [if_pos this]
theorem rgS1_of {f : Den Hdl} {τ τ1 : List D} {h : Hdl} {n : Nat} (e : f τ = .ok h τ1) (eg : h.get τ1 = .int (n : Int)) (hn : n ≤ 1000000) : rgS1 f τ = .ok ((List.range n).map fun (k : Nat) => D.int (k : Int)) τ1 := by
  unfold rgS1
  rw [e]
  simp only [Rz.bind, intOf_get eg (by omega : -1000000000 ≤ (n : Int) ∧ (n : Int) ≤ 1000000000), Int.toNat_natCast, rgD_eq]
theorem rgL_nat (n : Nat) : rgL 0 (n : Int) = (List.range n).map fun (k : Nat) => D.int (k : Int) := by
  unfold rgL
  have : ((n : Int) - 0).toNat = n := by omega
  rw [this]
  congr 1
  funext k
  rw [Int.zero_add]
end Y
end

section
set_option Elab.async false
set_option linter.all false
set_option maxRecDepth 100000
set_option maxHeartbeats 400000
namespace Law
open PySem PySem.Spec PyProof.Rows L2 Y
def top (i : Nat) : Stmt := PySem.Challenge.pw_liesborne_k02_polys_at_work.main.body.getD i (.Pass ⟨0, 0, 0, 0⟩)
abbrev s_is_residue : Stmt := top 8
abbrev s_wrong_residues : Stmt := top 9
abbrev s_power : Stmt := top 10
abbrev s_inverse_of : Stmt := top 11
abbrev s_value_at : Stmt := top 12
abbrev s_trimmed : Stmt := top 13
abbrev s_product_of : Stmt := top 14
abbrev s_quotient_of : Stmt := top 15
abbrev s_made_poly : Stmt := top 16
abbrev s_value : Stmt := top 17
abbrev s_times : Stmt := top 18
abbrev s_quotient : Stmt := top 19
abbrev s_law_pool : Stmt := top 21
abbrev s_law_take : Stmt := top 22
abbrev s_law_one : Stmt := top 23
abbrev s_law_yv_is_whole : Stmt := top 24
abbrev s_law_yv_is_in : Stmt := top 25
abbrev s_law_yv_same : Stmt := top 26
abbrev s_law_yv_is_residue : Stmt := top 27
abbrev s_law_yv_residue : Stmt := top 28
abbrev s_law_yv_bent : Stmt := top 29
abbrev s_law_c2_heard : Stmt := top 30
abbrev s_law_c2_tells : Stmt := top 31
abbrev s_law_c2_fault : Stmt := top 32
abbrev s_law_c2_poly : Stmt := top 33
abbrev s_law_c2_value : Stmt := top 34
abbrev s_law_c2_times : Stmt := top 35
abbrev s_law_c2_cut : Stmt := top 36
abbrev s_law_c2_power : Stmt := top 37
abbrev s_law_c2_quotient : Stmt := top 38
abbrev s_law_c2_forms_right : Stmt := top 39
abbrev s_law_c2_products_right : Stmt := top 40
abbrev s_law_c2_other_right : Stmt := top 41
abbrev s_law_c2_at_right : Stmt := top 42
abbrev s_law_c2_quotients_right : Stmt := top 43
abbrev s_law_c2_refused_right : Stmt := top 44
abbrev s_law_c2_hand_right : Stmt := top 45
abbrev s_law : Stmt := top 46
abbrev s_Rinit : Stmt := inClass (top 1) 0
/-! ### what each def computes -/
def errs : List Str := ["BadResidue", "BadPoly", "Zero"]
def subE (n : Str) : Option Bool := if n ∈ errs then some true else none
abbrev N_law_yv_is_whole : List Str := ["thing"]
def fx_law_yv_is_whole : Nat → Bool := fun i => i == 0
def b_law_yv_is_whole : SDen :=
    sRet (andV (uno (isiD "int") (nm 0)) (notV (uno (isiD "bool") (nm 0))))
def d_law_yv_is_whole : List D → Rt := nk0 (fnD 1 1 fx_law_yv_is_whole b_law_yv_is_whole)
abbrev N_law_yv_is_in : List Str := ["thing", "low", "high"]
def fx_law_yv_is_in : Nat → Bool := fun i => i == 0 || i == 1 || i == 2
def B_law_yv_is_in (g_law_yv_is_whole : List D → Rt) : SDen :=
    sRet (andV (callD g_law_yv_is_whole (acons (nm 0) (anil))) (chn leD leD (nm 1) (nm 0) (nm 2)))
def b_law_yv_is_in : SDen := B_law_yv_is_in d_law_yv_is_whole
def d_law_yv_is_in : List D → Rt := nk0 (fnD 3 3 fx_law_yv_is_in b_law_yv_is_in)
abbrev N_law_yv_is_residue : List Str := ["thing"]
def fx_law_yv_is_residue : Nat → Bool := fun i => i == 0
def B_law_yv_is_residue (g_law_yv_is_in : List D → Rt) : SDen :=
    sRet (callD g_law_yv_is_in (acons (nm 0) (acons (cst (.int 0)) (acons (cst (.int 2147483646)) (anil)))))
def b_law_yv_is_residue : SDen := B_law_yv_is_residue d_law_yv_is_in
def d_law_yv_is_residue : List D → Rt := nk0 (fnD 1 1 fx_law_yv_is_residue b_law_yv_is_residue)
abbrev N_law_c2_fault : List Str := ["thing", "wrong", "at"]
def fx_law_c2_fault : Nat → Bool := fun i => i == 0
def B_law_c2_fault (g_law_yv_is_residue : List D → Rt) : SDen :=
    sq (sIf (orT (notT (tst (uno (isiD "tuple") (nm 0)))) (tst (bin gtD (uno lenD (nm 0)) (cst (.int 40))))) (sRet (uno negD (cst (.int 1)))) (sNil))
    (sq (sSet 1 (lcE (rgS1 (uno lenD (nm 0))) (gN 2) (notT (tst (callD g_law_yv_is_residue (acons (bin ixD (nm 0) (nm 2)) (anil))))) (vl 2) [2]))
    (sRet (ifE (tst (bin neD (nm 1) (dsp (.lst true) (anil)))) (bin ixD (nm 1) (cst (.int 0))) (cst .non))))
def b_law_c2_fault : SDen := B_law_c2_fault d_law_yv_is_residue
def d_law_c2_fault : List D → Rt := nk0 (fnD 1 3 fx_law_c2_fault b_law_c2_fault)
abbrev N_law_c2_heard : List Str := ["call", "refused_one", "some", "name", "is_one"]
def fx_law_c2_heard : Nat → Bool := fun i => i == 0
def b_law_c2_heard : SDen :=
    sTry subE 1 (sRet (dsp .tup (acons (cst (.str "told")) (acons (cloD 0) (anil))))) (fun n dD => sq (sSet 2 (dsp (.lst true) (acons (dsp .tup (acons (cst (.str "BadPoly")) (acons (cst (.bl (decide (n = "BadPoly")))) (anil)))) (acons (dsp .tup (acons (cst (.str "BadResidue")) (acons (cst (.bl (decide (n = "BadResidue")))) (anil)))) (anil)))))
    (sq (sExpr (mtD appL 2 (acons (dsp .tup (acons (cst (.str "Zero")) (acons (cst (.bl (decide (n = "Zero")))) (anil)))) (anil))))
    (sRet (dsp .tup (acons (fz (uno (joinD " ") (lcE (seqS (vl 2)) (gT 2 (gC (gN 3) (gC (gN 4) (gNo)))) (tst (nm 4)) (vl 3) [3, 4]))) (acons (cst dD) (anil)))))))
def d_law_c2_heard : List D → Rt := fnD 1 5 fx_law_c2_heard b_law_c2_heard
abbrev N_law_take : List Str := ["jar", "many", "made_now"]
def fx_law_take : Nat → Bool := fun i => i == 0 || i == 1
def b_law_take : SDen :=
    sq (sIf (tst (bin gtD (bin ixD (nm 0) (cst (.int 0))) (cst (.int 0)))) (sq (sSet 2 (bin modD (uno intD (bin ixD (nm 0) (cst (.int 0)))) (nm 1)))
    (sq (sSto 0 (cst (.int 0)) (bin fdivD (bin ixD (nm 0) (cst (.int 0))) (nm 1)))
    (sRet (nm 2)))) (sNil))
    (sq (sSto 0 (cst (.int 2)) (bin addD (bin ixD (nm 0) (cst (.int 2))) (cst (.int 1))))
    (sq (sSto 0 (cst (.int 1)) (bin modD (uno intD (bin addD (bin addD (bin mulD (bin ixD (nm 0) (cst (.int 1))) (cst (.int 39373))) (bin mulD (cst (.int 7919)) (bin ixD (nm 0) (cst (.int 2))))) (cst (.int 7)))) (cst (.int 2147483647))))
    (sRet (bin modD (uno intD (bin fdivD (bin modD (uno intD (bin mulD (bin ixD (nm 0) (cst (.int 1))) (bin ixD (nm 0) (cst (.int 1))))) (cst (.int 2147483629))) (cst (.int 32)))) (nm 1)))))
def d_law_take : List D → Rt := nk0 (fnD 2 3 fx_law_take b_law_take)
abbrev N_law_one : List Str := ["jar", "things"]
def fx_law_one : Nat → Bool := fun i => i == 0 || i == 1
def B_law_one (g_law_take : List D → Rt) : SDen :=
    sRet (bin ixD (nm 1) (callD g_law_take (acons (nm 0) (acons (uno lenD (nm 1)) (anil)))))
def b_law_one : SDen := B_law_one d_law_take
def d_law_one : List D → Rt := nk0 (fnD 2 2 fx_law_one b_law_one)
abbrev N_law_yv_bent : List Str := ["jar", "thing", "odd", "at", "form", "some"]
def fx_law_yv_bent : Nat → Bool := fun i => i == 0 || i == 1
def B_law_yv_bent (g_law_one g_law_take g_law_yv_bent : List D → Rt) : SDen :=
    sq (sSet 2 (fz (callD g_law_one (acons (nm 0) (acons (fz (dsp (.lst true) (acons (cst .non) (acons (cst (.str "0")) (acons (cst (.bl true)) (acons (cst (.bl false)) (acons (uno negD (cst (.int 1))) (acons (cst (.int 0)) (acons (bin powD (cst (.int 10)) (cst (.int 25))) (acons (dsp .tup (anil)) (acons (dsp .tup (acons (cst (.int 0)) (anil))) (acons (fz (dsp (.lst true) (acons (cst (.int 0)) (anil)))) (acons (cst (.str "row")) (anil)))))))))))))) (anil))))))
    (sq (sIf (orT (notT (tst (uno (isiD "tuple") (nm 1)))) (tst (bin eqD (nm 1) (dsp .tup (anil))))) (sRet (nm 2)) (sNil))
    (sq (sPar 3 4 (acons (callD g_law_take (acons (nm 0) (acons (uno lenD (nm 1)) (anil)))) (acons (callD g_law_take (acons (nm 0) (acons (cst (.int 9)) (anil)))) (anil))))
    (sq (sIf (tst (bin ltD (nm 4) (cst (.int 3)))) (sRet (bin addD (bin addD (slc (nm 1) (pn) (pso (nm 3))) (dsp .tup (acons (callD g_law_yv_bent (acons (nm 0) (acons (bin ixD (nm 1) (nm 3)) (anil)))) (anil)))) (slc (nm 1) (pso (bin addD (nm 3) (cst (.int 1)))) (pn)))) (sNil))
    (sq (sSet 5 (dsp (.lst true) (acons (bin addD (bin addD (slc (nm 1) (pn) (pso (nm 3))) (dsp .tup (acons (vl 2) (anil)))) (slc (nm 1) (pso (bin addD (nm 3) (cst (.int 1)))) (pn))) (acons (bin addD (slc (nm 1) (pn) (pso (nm 3))) (slc (nm 1) (pso (bin addD (nm 3) (cst (.int 1)))) (pn))) (acons (bin addD (slc (nm 1) (pn) (pso (bin addD (nm 3) (cst (.int 1))))) (slc (nm 1) (pso (nm 3)) (pn))) (anil))))))
    (sq (sExpr (mtD extL 5 (acons (dsp (.lst true) (acons (bin addD (slc (nm 1) (pn) (pso (nm 3))) (uno revD (slc (nm 1) (pso (nm 3)) (pn)))) (acons (fz (uno listD (nm 1))) (acons (bin addD (nm 1) (dsp .tup (acons (vl 2) (anil)))) (anil))))) (anil))))
    (sRet (bin ixD (nm 5) (bin subD (nm 4) (cst (.int 3))))))))))
def D_law_yv_bent : Nat → List D → Rt
  | 0 => fun _ => .bad
  | n + 1 => nk0 (fnD 2 6 fx_law_yv_bent (B_law_yv_bent d_law_one d_law_take (D_law_yv_bent n)))
def d_law_yv_bent : List D → Rt := D_law_yv_bent 8
abbrev N_law_yv_same : List Str := ["heard", "owed", "todo", "one", "due", "is_so", "at"]
def fx_law_yv_same : Nat → Bool := fun i => i == 0 || i == 1
def B_law_yv_same (g_law_yv_is_whole : List D → Rt) : SDen :=
    sq (sSet 2 (dsp (.lst true) (acons (dsp .tup (acons (vl 0) (acons (vl 1) (anil)))) (anil))))
    (sq (sWhile 1000 (tst (bin neD (nm 2) (dsp (.lst true) (anil)))) (sq (sAsg (runL popL 2 []) (gU 2 (gC (gN 3) (gC (gN 4) (gNo)))))
    (sq (sIf (tst (bin isND (nm 4) (cst .non))) (sSet 5 (bin isND (nm 3) (cst .non))) (sIf (tst (uno (isiD "bool") (nm 4))) (sSet 5 (andV (uno (isiD "bool") (nm 3)) (bin eqD (nm 3) (nm 4)))) (sIf (tst (uno (isiD "int") (nm 4))) (sSet 5 (andV (callD g_law_yv_is_whole (acons (nm 3) (anil))) (bin eqD (nm 3) (nm 4)))) (sIf (tst (uno (isiD "str") (nm 4))) (sSet 5 (andV (uno (isiD "str") (nm 3)) (bin eqD (nm 3) (nm 4)))) (sq (sSet 5 (ifE (tst (uno (isiD "tuple") (nm 4))) (uno (isiD "tuple") (nm 3)) (uno (isiD "list") (nm 3))))
    (sq (sSet 5 (andV (vl 5) (bin eqD (uno lenD (nm 3)) (uno lenD (nm 4)))))
    (sExpr (mtD extL 2 (acons (ifE (tst (nm 5)) (lcE (rgS1 (uno lenD (nm 4))) (gN 6) (yesT) (dsp .tup (acons (bin ixD (nm 3) (nm 6)) (acons (bin ixD (nm 4) (nm 6)) (anil)))) [6]) (dsp (.lst true) (anil))) (anil))))))))))
    (sIf (notT (tst (nm 5))) (sRet (cst (.bl false))) (sNil)))))
    (sRet (cst (.bl true))))
def b_law_yv_same : SDen := B_law_yv_same d_law_yv_is_whole
def d_law_yv_same : List D → Rt := nk0 (fnD 2 7 fx_law_yv_same b_law_yv_same)
abbrev N_is_residue : List Str := ["thing"]
def fx_is_residue : Nat → Bool := fun i => i == 0
def b_is_residue : SDen :=
    sRet (andV (uno (isiD "int") (nm 0)) (andV (notV (uno (isiD "bool") (nm 0))) (chn leD ltD (cst (.int 0)) (nm 0) (cst (.int 2147483647)))))
def d_is_residue : List D → Rt := nk0 (fnD 1 1 fx_is_residue b_is_residue)
abbrev N_wrong_residues : List Str := ["thing", "many", "at", "one"]
def fx_wrong_residues : Nat → Bool := fun i => i == 0 || i == 1
def B_wrong_residues (g_is_residue : List D → Rt) : SDen :=
    sq (sIf (orT (notT (tst (uno (isiD "tuple") (nm 0)))) (tst (bin neD (uno lenD (nm 0)) (nm 1)))) (sRet (uno negD (cst (.int 1)))) (sNil))
    (sq (sFor (enumS (vl 0)) (gT 2 (gC (gN 2) (gC (gN 3) (gNo)))) (sIf (notT (tst (callD g_is_residue (acons (nm 3) (anil))))) (sRet (nm 2)) (sNil)))
    (sRet (cst .non)))
def b_wrong_residues : SDen := B_wrong_residues d_is_residue
def d_wrong_residues : List D → Rt := nk0 (fnD 2 4 fx_wrong_residues b_wrong_residues)
abbrev N_made_poly : List Str := ["thing", "wrong"]
def fx_made_poly : Nat → Bool := fun i => i == 0
def B_made_poly (g_wrong_residues : List D → Rt) : SDen :=
    sq (sIf (orT (notT (tst (uno (isiD "tuple") (nm 0)))) (tst (bin gtD (uno lenD (nm 0)) (cst (.int 40))))) (sRaise "BadPoly" (acons (uno negD (cst (.int 1))) (anil))) (sNil))
    (sq (sSet 1 (callD g_wrong_residues (acons (nm 0) (acons (uno lenD (nm 0)) (anil)))))
    (sq (sIf (tst (bin notND (nm 1) (cst .non))) (sRaise "BadPoly" (acons (vl 1) (anil))) (sNil))
    (sRet (nm 0))))
def b_made_poly : SDen := B_made_poly d_wrong_residues
def d_made_poly : List D → Rt := nk0 (fnD 1 2 fx_made_poly b_made_poly)
abbrev N_value_at : List Str := ["poly", "a", "found", "number"]
def fx_value_at : Nat → Bool := fun i => i == 0 || i == 1
def b_value_at : SDen :=
    sq (sSet 2 (cst (.int 0)))
    (sq (sFor (seqS (uno revD (nm 0))) (gN 3) (sSet 2 (bin modD (bin addD (bin mulD (nm 2) (nm 1)) (nm 3)) (cst (.int 2147483647)))))
    (sRet (nm 2)))
def d_value_at : List D → Rt := nk0 (fnD 2 4 fx_value_at b_value_at)
abbrev N_value : List Str := ["poly", "a"]
def fx_value : Nat → Bool := fun i => i == 0 || i == 1
def B_value (g_is_residue g_made_poly g_value_at : List D → Rt) : SDen :=
    sq (sExpr (callD g_made_poly (acons (nm 0) (anil))))
    (sq (sIf (notT (tst (callD g_is_residue (acons (nm 1) (anil))))) (sRaise "BadResidue" (acons (vl 1) (anil))) (sNil))
    (sRet (callD g_value_at (acons (nm 0) (acons (nm 1) (anil))))))
def b_value : SDen := B_value d_is_residue d_made_poly d_value_at
def d_value : List D → Rt := nk0 (fnD 2 2 fx_value b_value)
abbrev N_law_c2_forms_right : List Str := ["jar", "poly", "things", "odd", "at", "thing", "fault", "got"]
def fx_law_c2_forms_right : Nat → Bool := fun i => i == 0 || i == 1
def B_law_c2_forms_right (g_law_c2_fault g_law_c2_heard g_law_take g_law_yv_bent g_law_yv_same g_made_poly g_value : List D → Rt) : SDen :=
    sq (sSet 2 (dsp (.lst true) (acons (vl 1) (acons (fz (uno listD (nm 1))) (acons (cst .non) (acons (cst (.int 0)) (acons (cst (.str "poly")) (acons (dsp .tup (acons (vl 1) (anil))) (acons (bin addD (nm 1) (dsp .tup (acons (cst (.int 0)) (anil)))) (acons (bin mulD (nm 1) (cst (.int 3))) (acons (bin mulD (dsp .tup (acons (cst (.int 0)) (anil))) (cst (.int 40))) (acons (bin mulD (dsp .tup (acons (cst (.int 0)) (anil))) (cst (.int 41))) (acons (bin mulD (dsp .tup (acons (cst .non) (anil))) (cst (.int 41))) (anil))))))))))))))
    (sq (sFor (seqS (dsp (.lst true) (acons (cst (.int 2147483647)) (acons (uno negD (cst (.int 1))) (acons (cst .non) (acons (cst (.bl true)) (acons (cst (.str "1")) (acons (dsp .tup (acons (cst (.int 1)) (anil))) (acons (fz (dsp (.lst true) (acons (cst (.int 1)) (anil)))) (acons (bin powD (cst (.int 10)) (cst (.int 30))) (anil))))))))))) (gN 3) (sq (sSet 4 (callD g_law_take (acons (nm 0) (acons (bin addD (uno lenD (nm 1)) (cst (.int 1))) (anil)))))
    (sExpr (mtD appL 2 (acons (bin addD (bin addD (slc (nm 1) (pn) (pso (nm 4))) (dsp .tup (acons (vl 3) (anil)))) (slc (nm 1) (pso (nm 4)) (pn))) (anil))))))
    (sq (sExpr (mtD extL 2 (acons (dsp (.lst true) (acons (bin addD (bin addD (dsp .tup (acons (cst .non) (anil))) (nm 1)) (dsp .tup (acons (uno negD (cst (.int 1))) (anil)))) (acons (callD g_law_yv_bent (acons (nm 0) (acons (nm 1) (anil)))) (acons (callD g_law_yv_bent (acons (nm 0) (acons (callD g_law_yv_bent (acons (nm 0) (acons (nm 1) (anil)))) (anil)))) (anil))))) (anil))))
    (sq (sFor (seqS (vl 2)) (gN 5) (sq (sSet 6 (callD g_law_c2_fault (acons (nm 5) (anil))))
    (sq (sSet 7 (lamD g_law_c2_heard (callD g_made_poly (acons (nm 5) (anil))) [5] (anil)))
    (sq (sIf (notT (tst (callD g_law_yv_same (acons (nm 7) (acons (ifE (tst (bin isND (nm 6) (cst .non))) (dsp .tup (acons (cst (.str "told")) (acons (vl 5) (anil)))) (dsp .tup (acons (cst (.str "BadPoly")) (acons (vl 6) (anil))))) (anil)))))) (sRet (cst (.bl false))) (sNil))
    (sIf (andT (tst (bin notND (nm 6) (cst .non))) (notT (tst (callD g_law_yv_same (acons (lamD g_law_c2_heard (callD g_value (acons (nm 5) (acons (cst .non) (anil)))) [5] (anil)) (acons (dsp .tup (acons (cst (.str "BadPoly")) (acons (vl 6) (anil)))) (anil))))))) (sRet (cst (.bl false))) (sNil))))))
    (sRet (cst (.bl true))))))
def b_law_c2_forms_right : SDen := B_law_c2_forms_right d_law_c2_fault d_law_c2_heard d_law_take d_law_yv_bent d_law_yv_same d_made_poly d_value
def d_law_c2_forms_right : List D → Rt := nk0 (fnD 2 8 fx_law_c2_forms_right b_law_c2_forms_right)
abbrev N_power : List Str := ["a", "e", "found"]
def fx_power : Nat → Bool := fun i => false
def b_power : SDen :=
    sq (sSet 2 (cst (.int 1)))
    (sq (sWhile 1000 (tst (bin gtD (nm 1) (cst (.int 0)))) (sq (sSet 2 (ifE (tst (bin eqD (bin modD (nm 1) (cst (.int 2))) (cst (.int 1)))) (bin modD (bin mulD (nm 2) (nm 0)) (cst (.int 2147483647))) (vl 2)))
    (sPar 0 1 (acons (bin modD (bin mulD (nm 0) (nm 0)) (cst (.int 2147483647))) (acons (bin fdivD (nm 1) (cst (.int 2))) (anil))))))
    (sRet (nm 2)))
def d_power : List D → Rt := nk0 (fnD 2 3 fx_power b_power)
abbrev N_inverse_of : List Str := ["a"]
def fx_inverse_of : Nat → Bool := fun i => i == 0
def B_inverse_of (g_power : List D → Rt) : SDen :=
    sRet (callD g_power (acons (nm 0) (acons (bin subD (cst (.int 2147483647)) (cst (.int 2))) (anil))))
def b_inverse_of : SDen := B_inverse_of d_power
def d_inverse_of : List D → Rt := nk0 (fnD 1 1 fx_inverse_of b_inverse_of)
abbrev N_trimmed : List Str := ["poly", "many"]
def fx_trimmed : Nat → Bool := fun i => i == 0
def b_trimmed : SDen :=
    sq (sSet 1 (uno lenD (nm 0)))
    (sq (sWhile 1000 (andT (tst (bin gtD (nm 1) (cst (.int 0)))) (tst (bin eqD (bin ixD (nm 0) (bin subD (nm 1) (cst (.int 1)))) (cst (.int 0))))) (sSet 1 (bin subD (nm 1) (cst (.int 1)))))
    (sRet (uno listD (slc (nm 0) (pn) (pso (nm 1))))))
def d_trimmed : List D → Rt := nk0 (fnD 1 2 fx_trimmed b_trimmed)
abbrev N_quotient_of : List Str := ["one", "two", "rest", "by", "first", "found", "at", "times", "to", "number"]
def fx_quotient_of : Nat → Bool := fun i => i == 0 || i == 1
def B_quotient_of (g_inverse_of g_trimmed : List D → Rt) : SDen :=
    sq (sPar 2 3 (acons (callD g_trimmed (acons (nm 0) (anil))) (acons (callD g_trimmed (acons (nm 1) (anil))) (anil))))
    (sq (sPar 4 5 (acons (callD g_inverse_of (acons (bin ixD (nm 3) (uno negD (cst (.int 1)))) (anil))) (acons (bin mulD (dsp (.lst true) (acons (cst (.int 0)) (anil))) (bin max2D (cst (.int 0)) (bin addD (bin subD (uno lenD (nm 2)) (uno lenD (nm 3))) (cst (.int 1))))) (anil))))
    (sq (sFor (rgS3 (bin subD (uno lenD (nm 5)) (cst (.int 1))) (uno negD (cst (.int 1)))) (gN 6) (sq (sSet 7 (bin modD (bin mulD (bin ixD (nm 2) (bin subD (bin addD (nm 6) (uno lenD (nm 3))) (cst (.int 1)))) (nm 4)) (cst (.int 2147483647))))
    (sq (sSto 5 (nm 6) (vl 7))
    (sFor (enumS (vl 3)) (gT 2 (gC (gN 8) (gC (gN 9) (gNo)))) (sSto 2 (bin addD (nm 6) (nm 8)) (bin modD (bin subD (bin ixD (nm 2) (bin addD (nm 6) (nm 8))) (bin mulD (nm 7) (nm 9))) (cst (.int 2147483647))))))))
    (sRet (ifE (tst (bin eqD (callD g_trimmed (acons (vl 2) (anil))) (dsp (.lst true) (anil)))) (nm 5) (cst .non)))))
def b_quotient_of : SDen := B_quotient_of d_inverse_of d_trimmed
def d_quotient_of : List D → Rt := nk0 (fnD 2 10 fx_quotient_of b_quotient_of)
abbrev N_quotient : List Str := ["one", "two", "found"]
def fx_quotient : Nat → Bool := fun i => i == 0 || i == 1
def B_quotient (g_made_poly g_quotient_of g_trimmed : List D → Rt) : SDen :=
    sq (sExpr (callD g_made_poly (acons (nm 0) (anil))))
    (sq (sIf (tst (bin eqD (callD g_trimmed (acons (callD g_made_poly (acons (nm 1) (anil))) (anil))) (dsp (.lst true) (anil)))) (sRaise "Zero" (acons (vl 1) (anil))) (sNil))
    (sq (sSet 2 (callD g_quotient_of (acons (nm 0) (acons (nm 1) (anil)))))
    (sRet (ifE (tst (bin isND (nm 2) (cst .non))) (cst .non) (uno tupleD (nm 2))))))
def b_quotient : SDen := B_quotient d_made_poly d_quotient_of d_trimmed
def d_quotient : List D → Rt := nk0 (fnD 2 3 fx_quotient b_quotient)
abbrev N_product_of : List Str := ["one", "two", "found", "at", "a", "to", "b"]
def fx_product_of : Nat → Bool := fun i => i == 0 || i == 1
def b_product_of : SDen :=
    sq (sIf (orT (tst (bin eqD (uno lenD (nm 0)) (cst (.int 0)))) (tst (bin eqD (uno lenD (nm 1)) (cst (.int 0))))) (sRet (dsp (.lst true) (anil))) (sNil))
    (sq (sSet 2 (bin mulD (dsp (.lst true) (acons (cst (.int 0)) (anil))) (bin subD (bin addD (uno lenD (nm 0)) (uno lenD (nm 1))) (cst (.int 1)))))
    (sq (sFor (enumS (vl 0)) (gT 2 (gC (gN 3) (gC (gN 4) (gNo)))) (sIf (tst (bin neD (nm 4) (cst (.int 0)))) (sFor (enumS (vl 1)) (gT 2 (gC (gN 5) (gC (gN 6) (gNo)))) (sSto 2 (bin addD (nm 3) (nm 5)) (bin modD (bin addD (bin ixD (nm 2) (bin addD (nm 3) (nm 5))) (bin mulD (nm 4) (nm 6))) (cst (.int 2147483647))))) (sNil)))
    (sRet (nm 2))))
def d_product_of : List D → Rt := nk0 (fnD 2 7 fx_product_of b_product_of)
abbrev N_times : List Str := ["one", "two"]
def fx_times : Nat → Bool := fun i => i == 0 || i == 1
def B_times (g_made_poly g_product_of : List D → Rt) : SDen :=
    sq (sExpr (callD g_made_poly (acons (nm 0) (anil))))
    (sRet (uno tupleD (callD g_product_of (acons (nm 0) (acons (callD g_made_poly (acons (nm 1) (anil))) (anil))))))
def b_times : SDen := B_times d_made_poly d_product_of
def d_times : List D → Rt := nk0 (fnD 2 2 fx_times b_times)
abbrev N_law_c2_hand_right : List Str := ["got", "owed", "one"]
def fx_law_c2_hand_right : Nat → Bool := fun i => false
def B_law_c2_hand_right (g_law_c2_heard g_law_yv_same g_quotient g_times g_value : List D → Rt) : SDen :=
    sq (sSet 0 (dsp (.lst true) (acons (lamD g_law_c2_heard (callD g_times (acons (dsp .tup (acons (cst (.int 1)) (acons (cst (.int 1)) (anil)))) (acons (dsp .tup (acons (cst (.int 2147483646)) (acons (cst (.int 1)) (anil)))) (anil)))) [] (anil)) (anil))))
    (sq (sExpr (mtD appL 0 (acons (lamD g_law_c2_heard (callD g_quotient (acons (dsp .tup (acons (cst (.int 2147483646)) (acons (cst (.int 0)) (acons (cst (.int 1)) (acons (cst (.int 0)) (anil)))))) (acons (dsp .tup (acons (cst (.int 1)) (acons (cst (.int 1)) (acons (cst (.int 0)) (anil))))) (anil)))) [] (anil)) (anil))))
    (sq (sExpr (mtD appL 0 (acons (lamD g_law_c2_heard (callD g_quotient (acons (dsp .tup (acons (cst (.int 1)) (acons (cst (.int 0)) (acons (cst (.int 1)) (anil))))) (acons (dsp .tup (acons (cst (.int 1)) (acons (cst (.int 1)) (anil)))) (anil)))) [] (anil)) (anil))))
    (sq (sExpr (mtD appL 0 (acons (lamD g_law_c2_heard (callD g_quotient (acons (dsp .tup (acons (cst (.int 1)) (anil))) (acons (dsp .tup (acons (cst (.int 2)) (anil))) (anil)))) [] (anil)) (anil))))
    (sq (sExpr (mtD appL 0 (acons (lamD g_law_c2_heard (callD g_quotient (acons (dsp .tup (anil)) (acons (dsp .tup (acons (cst (.int 5)) (anil))) (anil)))) [] (anil)) (anil))))
    (sq (sExpr (mtD appL 0 (acons (lamD g_law_c2_heard (callD g_quotient (acons (dsp .tup (acons (cst (.int 3)) (anil))) (acons (dsp .tup (acons (cst (.int 0)) (acons (cst (.int 1)) (anil)))) (anil)))) [] (anil)) (anil))))
    (sq (sExpr (mtD appL 0 (acons (lamD g_law_c2_heard (callD g_times (acons (bin addD (dsp .tup (acons (cst (.int 1)) (anil))) (bin mulD (dsp .tup (acons (cst (.int 0)) (anil))) (cst (.int 39)))) (acons (bin addD (bin mulD (dsp .tup (acons (cst (.int 0)) (anil))) (cst (.int 39))) (dsp .tup (acons (cst (.int 1)) (anil)))) (anil)))) [] (anil)) (anil))))
    (sq (sExpr (mtD appL 0 (acons (lamD g_law_c2_heard (callD g_value (acons (dsp .tup (anil)) (acons (cst (.int 5)) (anil)))) [] (anil)) (anil))))
    (sq (sExpr (mtD appL 0 (acons (lamD g_law_c2_heard (callD g_value (acons (dsp .tup (acons (cst (.int 1)) (acons (cst (.int 1)) (anil)))) (acons (cst (.int 2147483646)) (anil)))) [] (anil)) (anil))))
    (sq (sSet 1 (fz (dsp (.lst true) (acons (dsp .tup (acons (cst (.int 2147483646)) (acons (cst (.int 0)) (acons (cst (.int 1)) (anil))))) (acons (dsp .tup (acons (cst (.int 2147483646)) (acons (cst (.int 1)) (anil)))) (acons (cst .non) (acons (dsp .tup (acons (cst (.int 1073741824)) (anil))) (acons (dsp .tup (anil)) (acons (cst .non) (acons (bin addD (bin addD (bin mulD (dsp .tup (acons (cst (.int 0)) (anil))) (cst (.int 39))) (dsp .tup (acons (cst (.int 1)) (anil)))) (bin mulD (dsp .tup (acons (cst (.int 0)) (anil))) (cst (.int 39)))) (acons (cst (.int 0)) (acons (cst (.int 0)) (anil)))))))))))))
    (sRet (callD g_law_yv_same (acons (uno tupleD (nm 0)) (acons (fz (uno tupleD (lcE (seqS (vl 1)) (gN 2) (yesT) (dsp .tup (acons (cst (.str "told")) (acons (vl 2) (anil)))) [2]))) (anil))))))))))))))
def b_law_c2_hand_right : SDen := B_law_c2_hand_right d_law_c2_heard d_law_yv_same d_quotient d_times d_value
def d_law_c2_hand_right : List D → Rt := nk0 (fnD 0 3 fx_law_c2_hand_right b_law_c2_hand_right)
abbrev N_law_yv_residue : List Str := ["jar", "low", "some"]
def fx_law_yv_residue : Nat → Bool := fun i => i == 0
def B_law_yv_residue (g_law_one g_law_take : List D → Rt) : SDen :=
    sq (sSet 1 (callD g_law_take (acons (nm 0) (acons (cst (.int 65536)) (anil)))))
    (sq (sSet 2 (fz (dsp (.lst true) (acons (cst (.int 0)) (acons (cst (.int 1)) (acons (cst (.int 2)) (acons (cst (.int 3)) (acons (cst (.int 7)) (acons (cst (.int 2147483646)) (acons (cst (.int 2147483645)) (acons (cst (.int 1073741823)) (acons (cst (.int 1073741824)) (acons (vl 1) (acons (bin subD (cst (.int 2147483646)) (nm 1)) (anil)))))))))))))))
    (sRet (callD g_law_one (acons (nm 0) (acons (fz (bin addD (nm 2) (fz (bin mulD (dsp (.lst true) (acons (bin modD (uno intD (bin addD (bin mulD (nm 1) (cst (.int 32768))) (callD g_law_take (acons (nm 0) (acons (cst (.int 32768)) (anil)))))) (cst (.int 2147483647))) (anil))) (cst (.int 3)))))) (anil))))))
def b_law_yv_residue : SDen := B_law_yv_residue d_law_one d_law_take
def d_law_yv_residue : List D → Rt := nk0 (fnD 1 3 fx_law_yv_residue b_law_yv_residue)
abbrev N_law_c2_poly : List Str := ["jar", "most_now", "many", "made_now", "at"]
def fx_law_c2_poly : Nat → Bool := fun i => i == 0 || i == 1
def B_law_c2_poly (g_law_one g_law_take g_law_yv_residue : List D → Rt) : SDen :=
    sq (sSet 2 (fz (callD g_law_one (acons (nm 0) (acons (fz (dsp (.lst true) (acons (cst (.int 0)) (acons (cst (.int 1)) (acons (cst (.int 1)) (acons (cst (.int 2)) (acons (cst (.int 3)) (acons (cst (.int 4)) (acons (cst (.int 6)) (acons (vl 1) (anil))))))))))) (anil))))))
    (sq (sSet 3 (lcE (rgS1 (bin min2D (nm 2) (nm 1))) (gN 4) (yesT) (callD g_law_yv_residue (acons (nm 0) (anil))) [4]))
    (sq (sIf (tst (bin eqD (callD g_law_take (acons (nm 0) (acons (cst (.int 5)) (anil)))) (cst (.int 0)))) (sSet 3 (fz (bin addD (slc (nm 3) (pn) (pso (bin subD (nm 1) (cst (.int 2))))) (fz (bin mulD (dsp (.lst true) (acons (cst (.int 0)) (anil))) (callD g_law_one (acons (nm 0) (acons (fz (dsp (.lst true) (acons (cst (.int 1)) (acons (cst (.int 2)) (anil))))) (anil))))))))) (sNil))
    (sRet (ifE (tst (bin gtD (callD g_law_take (acons (nm 0) (acons (cst (.int 20)) (anil)))) (cst (.int 0)))) (uno tupleD (nm 3)) (bin mulD (dsp .tup (acons (cst (.int 0)) (anil))) (uno lenD (nm 3)))))))
def b_law_c2_poly : SDen := B_law_c2_poly d_law_one d_law_take d_law_yv_residue
def d_law_c2_poly : List D → Rt := nk0 (fnD 2 5 fx_law_c2_poly b_law_c2_poly)
abbrev N_law_c2_tells : List Str := ["call", "owed"]
def fx_law_c2_tells : Nat → Bool := fun i => i == 0 || i == 1
def B_law_c2_tells (g_law_c2_heard g_law_yv_same : List D → Rt) : SDen :=
    sRet (callD g_law_yv_same (acons (callD g_law_c2_heard (acons (nm 0) (anil))) (acons (dsp .tup (acons (cst (.str "told")) (acons (vl 1) (anil)))) (anil))))
def b_law_c2_tells : SDen := B_law_c2_tells d_law_c2_heard d_law_yv_same
def d_law_c2_tells : List D → Rt := fnD 2 2 fx_law_c2_tells b_law_c2_tells
abbrev N_law_c2_at_right : List Str := ["poly", "a", "owed"]
def fx_law_c2_at_right : Nat → Bool := fun i => i == 0 || i == 1 || i == 2
def B_law_c2_at_right (g_law_c2_tells g_value : List D → Rt) : SDen :=
    sRet (lamD g_law_c2_tells (callD g_value (acons (nm 0) (acons (nm 1) (anil)))) [0, 1] (acons (nm 2) (anil)))
def b_law_c2_at_right : SDen := B_law_c2_at_right d_law_c2_tells d_value
def d_law_c2_at_right : List D → Rt := nk0 (fnD 3 3 fx_law_c2_at_right b_law_c2_at_right)
abbrev N_law_c2_other_right : List Str := ["one", "two", "both"]
def fx_law_c2_other_right : Nat → Bool := fun i => i == 0 || i == 1 || i == 2
def B_law_c2_other_right (g_law_c2_tells g_times : List D → Rt) : SDen :=
    sRet (lamD g_law_c2_tells (callD g_times (acons (nm 1) (acons (nm 0) (anil)))) [0, 1] (acons (nm 2) (anil)))
def b_law_c2_other_right : SDen := B_law_c2_other_right d_law_c2_tells d_times
def d_law_c2_other_right : List D → Rt := nk0 (fnD 3 3 fx_law_c2_other_right b_law_c2_other_right)
abbrev N_law_c2_times : List Str := ["one", "two", "made_now", "at", "to"]
def fx_law_c2_times : Nat → Bool := fun i => i == 0 || i == 1
def b_law_c2_times : SDen :=
    sq (sIf (orT (tst (bin eqD (nm 0) (dsp .tup (anil)))) (tst (bin eqD (nm 1) (dsp .tup (anil))))) (sRet (dsp .tup (anil))) (sNil))
    (sq (sSet 2 (bin mulD (dsp (.lst true) (acons (cst (.int 0)) (anil))) (bin subD (bin addD (uno lenD (nm 0)) (uno lenD (nm 1))) (cst (.int 1)))))
    (sq (sFor (rgS1 (uno lenD (nm 0))) (gN 3) (sFor (rgS1 (uno lenD (nm 1))) (gN 4) (sSto 2 (bin addD (nm 3) (nm 4)) (bin modD (uno intD (bin addD (bin ixD (nm 2) (bin addD (nm 3) (nm 4))) (bin mulD (bin ixD (nm 0) (nm 3)) (bin ixD (nm 1) (nm 4))))) (cst (.int 2147483647))))))
    (sRet (uno tupleD (nm 2)))))
def d_law_c2_times : List D → Rt := nk0 (fnD 2 5 fx_law_c2_times b_law_c2_times)
abbrev N_law_c2_value : List Str := ["poly", "a", "made_now", "number"]
def fx_law_c2_value : Nat → Bool := fun i => i == 0 || i == 1
def b_law_c2_value : SDen :=
    sq (sSet 2 (cst (.int 0)))
    (sq (sFor (seqS (uno revD (nm 0))) (gN 3) (sSet 2 (bin modD (uno intD (bin addD (bin mulD (nm 2) (nm 1)) (nm 3))) (cst (.int 2147483647)))))
    (sRet (nm 2)))
def d_law_c2_value : List D → Rt := nk0 (fnD 2 4 fx_law_c2_value b_law_c2_value)
abbrev N_law_c2_products_right : List Str := ["jar", "one", "two", "both", "go", "a", "first", "second"]
def fx_law_c2_products_right : Nat → Bool := fun i => i == 0 || i == 1 || i == 2
def B_law_c2_products_right (g_law_c2_at_right g_law_c2_other_right g_law_c2_tells g_law_c2_times g_law_c2_value g_law_yv_residue g_times g_value : List D → Rt) : SDen :=
    sq (sSet 3 (callD g_law_c2_times (acons (nm 1) (acons (nm 2) (anil)))))
    (sq (sIf (orT (notT (tst (lamD g_law_c2_tells (callD g_times (acons (nm 1) (acons (nm 2) (anil)))) [1, 2] (acons (nm 3) (anil))))) (notT (tst (callD g_law_c2_other_right (acons (nm 1) (acons (nm 2) (acons (nm 3) (anil)))))))) (sRet (cst (.bl false))) (sNil))
    (sq (sFor (rgS1 (cst (.int 3))) (gN 4) (sq (sSet 5 (callD g_law_yv_residue (acons (nm 0) (anil))))
    (sq (sPar 6 7 (acons (callD g_law_c2_value (acons (nm 1) (acons (nm 5) (anil)))) (acons (callD g_law_c2_value (acons (nm 2) (acons (nm 5) (anil)))) (anil))))
    (sq (sIf (orT (notT (tst (lamD g_law_c2_tells (callD g_value (acons (nm 1) (acons (nm 5) (anil)))) [1, 5] (acons (nm 6) (anil))))) (notT (tst (callD g_law_c2_at_right (acons (nm 2) (acons (nm 5) (acons (nm 7) (anil)))))))) (sRet (cst (.bl false))) (sNil))
    (sq (sIf (tst (bin neD (callD g_law_c2_value (acons (nm 3) (acons (nm 5) (anil)))) (bin modD (uno intD (bin mulD (nm 6) (nm 7))) (cst (.int 2147483647))))) (sRet (cst (.bl false))) (sNil))
    (sIf (andT (tst (bin ltD (uno lenD (nm 3)) (cst (.int 41)))) (notT (tst (callD g_law_c2_at_right (acons (nm 3) (acons (nm 5) (acons (bin modD (uno intD (bin mulD (nm 6) (nm 7))) (cst (.int 2147483647))) (anil)))))))) (sRet (cst (.bl false))) (sNil)))))))
    (sRet (cst (.bl true)))))
def b_law_c2_products_right : SDen := B_law_c2_products_right d_law_c2_at_right d_law_c2_other_right d_law_c2_tells d_law_c2_times d_law_c2_value d_law_yv_residue d_times d_value
def d_law_c2_products_right : List D → Rt := nk0 (fnD 3 8 fx_law_c2_products_right b_law_c2_products_right)
abbrev N_law_c2_cut : List Str := ["poly", "made_now"]
def fx_law_c2_cut : Nat → Bool := fun i => i == 0
def b_law_c2_cut : SDen :=
    sq (sSet 1 (uno listD (nm 0)))
    (sq (sWhile 1000 (andT (tst (bin neD (nm 1) (dsp (.lst true) (anil)))) (tst (bin eqD (bin ixD (nm 1) (uno negD (cst (.int 1)))) (cst (.int 0))))) (sExpr (runL popL 1 [])))
    (sRet (uno tupleD (nm 1))))
def d_law_c2_cut : List D → Rt := nk0 (fnD 1 2 fx_law_c2_cut b_law_c2_cut)
abbrev N_law_c2_power : List Str := ["a", "many", "made_now", "one", "left_now"]
def fx_law_c2_power : Nat → Bool := fun i => i == 0 || i == 1
def b_law_c2_power : SDen :=
    sq (sPar3 2 3 4 (acons (cst (.int 1)) (acons (uno intD (nm 0)) (acons (uno intD (nm 1)) (anil)))))
    (sq (sWhile 1000 (tst (bin gtD (nm 4) (cst (.int 0)))) (sq (sSet 2 (ifE (tst (bin eqD (bin modD (nm 4) (cst (.int 2))) (cst (.int 1)))) (bin modD (uno intD (bin mulD (nm 2) (nm 3))) (cst (.int 2147483647))) (vl 2)))
    (sPar 3 4 (acons (bin modD (uno intD (bin mulD (nm 3) (nm 3))) (cst (.int 2147483647))) (acons (bin fdivD (nm 4) (cst (.int 2))) (anil))))))
    (sRet (nm 2)))
def d_law_c2_power : List D → Rt := nk0 (fnD 2 5 fx_law_c2_power b_law_c2_power)
abbrev N_law_c2_quotient : List Str := ["one", "two", "rest", "below", "by", "made_now", "step", "place", "much", "at", "number"]
def fx_law_c2_quotient : Nat → Bool := fun i => i == 0 || i == 1
def B_law_c2_quotient (g_law_c2_cut g_law_c2_power : List D → Rt) : SDen :=
    sq (sPar 2 3 (acons (uno listD (callD g_law_c2_cut (acons (nm 0) (anil)))) (acons (callD g_law_c2_cut (acons (nm 1) (anil))) (anil))))
    (sq (sPar 4 5 (acons (callD g_law_c2_power (acons (bin ixD (nm 3) (uno negD (cst (.int 1)))) (acons (cst (.int 2147483645)) (anil)))) (acons (dsp (.lst true) (anil)) (anil))))
    (sq (sFor (rgS1 (bin addD (bin subD (uno lenD (nm 2)) (uno lenD (nm 3))) (cst (.int 1)))) (gN 6) (sq (sSet 7 (bin subD (bin subD (uno lenD (nm 2)) (uno lenD (nm 3))) (nm 6)))
    (sq (sSet 8 (bin modD (uno intD (bin mulD (bin ixD (nm 2) (bin subD (bin addD (nm 7) (uno lenD (nm 3))) (cst (.int 1)))) (nm 4))) (cst (.int 2147483647))))
    (sq (sExpr (mtD appL 5 (acons (vl 8) (anil))))
    (sFor (rgS1 (uno lenD (nm 3))) (gN 9) (sSto 2 (bin addD (nm 7) (nm 9)) (bin modD (uno intD (bin subD (bin ixD (nm 2) (bin addD (nm 7) (nm 9))) (bin mulD (nm 8) (bin ixD (nm 3) (nm 9))))) (cst (.int 2147483647)))))))))
    (sRet (ifE (tst (bin eqD (lcE (seqS (vl 2)) (gN 10) (tst (bin neD (nm 10) (cst (.int 0)))) (vl 10) [10]) (dsp (.lst true) (anil)))) (uno tupleD (uno revD (nm 5))) (cst .non)))))
def b_law_c2_quotient : SDen := B_law_c2_quotient d_law_c2_cut d_law_c2_power
def d_law_c2_quotient : List D → Rt := nk0 (fnD 2 11 fx_law_c2_quotient b_law_c2_quotient)
abbrev N_law_c2_quotients_right : List Str := ["jar", "one", "two", "both", "at", "more", "thing", "heard"]
def fx_law_c2_quotients_right : Nat → Bool := fun i => i == 0 || i == 1 || i == 2
def B_law_c2_quotients_right (g_law_c2_cut g_law_c2_heard g_law_c2_quotient g_law_c2_tells g_law_c2_times g_law_take g_law_yv_residue g_law_yv_same g_quotient : List D → Rt) : SDen :=
    sq (sSet 3 (slc (callD g_law_c2_times (acons (nm 1) (acons (nm 2) (anil)))) (pn) (pso (cst (.int 40)))))
    (sq (sSet 4 (callD g_law_take (acons (nm 0) (acons (bin max2D (cst (.int 1)) (uno lenD (nm 3))) (anil)))))
    (sq (sSet 5 (bin addD (bin addD (slc (nm 3) (pn) (pso (nm 4))) (dsp .tup (acons (callD g_law_yv_residue (acons (nm 0) (anil))) (anil)))) (slc (nm 3) (pso (bin addD (nm 4) (cst (.int 1)))) (pn))))
    (sq (sFor (seqS (dsp (.lst true) (acons (vl 3) (acons (vl 5) (acons (vl 1) (acons (vl 2) (acons (dsp .tup (anil)) (acons (dsp .tup (acons (cst (.int 0)) (acons (cst (.int 0)) (anil)))) (acons (slc (nm 3) (pn) (pso (uno negD (cst (.int 1))))) (acons (slc (bin addD (nm 3) (dsp .tup (acons (cst (.int 0)) (acons (cst (.int 0)) (anil))))) (pn) (pso (cst (.int 40)))) (anil))))))))))) (gN 6) (sq (sSet 7 (lamD g_law_c2_heard (callD g_quotient (acons (nm 6) (acons (nm 2) (anil)))) [2, 6] (anil)))
    (sIf (tst (bin eqD (callD g_law_c2_cut (acons (nm 2) (anil))) (dsp .tup (anil)))) (sIf (notT (tst (callD g_law_yv_same (acons (nm 7) (acons (dsp .tup (acons (cst (.str "Zero")) (acons (vl 2) (anil)))) (anil)))))) (sRet (cst (.bl false))) (sNil)) (sIf (notT (tst (callD g_law_yv_same (acons (nm 7) (acons (dsp .tup (acons (cst (.str "told")) (acons (callD g_law_c2_quotient (acons (nm 6) (acons (nm 2) (anil)))) (anil)))) (anil)))))) (sRet (cst (.bl false))) (sNil)))))
    (sq (sIf (orT (tst (bin eqD (callD g_law_c2_cut (acons (nm 2) (anil))) (dsp .tup (anil)))) (tst (bin gtD (bin addD (uno lenD (nm 1)) (uno lenD (nm 2))) (cst (.int 41))))) (sRet (cst (.bl true))) (sNil))
    (sRet (lamD g_law_c2_tells (callD g_quotient (acons (nm 3) (acons (nm 2) (anil)))) [2, 3] (acons (callD g_law_c2_cut (acons (nm 1) (anil))) (anil))))))))
def b_law_c2_quotients_right : SDen := B_law_c2_quotients_right d_law_c2_cut d_law_c2_heard d_law_c2_quotient d_law_c2_tells d_law_c2_times d_law_take d_law_yv_residue d_law_yv_same d_quotient
def d_law_c2_quotients_right : List D → Rt := nk0 (fnD 3 8 fx_law_c2_quotients_right b_law_c2_quotients_right)
abbrev N_law_c2_refused_right : List Str := ["jar", "poly", "odd", "bad", "fault", "due", "got", "owed", "a"]
def fx_law_c2_refused_right : Nat → Bool := fun i => i == 0 || i == 1
def B_law_c2_refused_right (g_law_c2_fault g_law_c2_heard g_law_one g_law_yv_same g_quotient g_times g_value : List D → Rt) : SDen :=
    sq (sSet 2 (fz (callD g_law_one (acons (nm 0) (acons (fz (dsp (.lst true) (acons (cst .non) (acons (fz (dsp (.lst true) (acons (cst (.int 0)) (anil)))) (acons (bin mulD (dsp .tup (acons (cst (.int 0)) (anil))) (cst (.int 41))) (acons (dsp .tup (acons (cst .non) (anil))) (acons (dsp .tup (acons (cst (.int 0)) (acons (uno negD (cst (.int 1))) (anil)))) (acons (dsp .tup (acons (cst (.int 2147483647)) (anil))) (acons (dsp .tup (acons (cst (.int 0)) (acons (cst (.bl true)) (anil)))) (acons (cst (.str "1")) (acons (cst (.int 7)) (anil)))))))))))) (anil))))))
    (sq (sSet 3 (fz (callD g_law_one (acons (nm 0) (acons (fz (dsp (.lst true) (acons (cst .non) (acons (fz (dsp (.lst true) (acons (cst (.int 0)) (anil)))) (acons (bin mulD (dsp .tup (acons (cst (.int 0)) (anil))) (cst (.int 41))) (acons (dsp .tup (acons (cst (.int 0)) (acons (cst (.int 0)) (acons (cst .non) (anil))))) (acons (dsp .tup (acons (uno negD (cst (.int 1))) (anil))) (acons (dsp .tup (acons (cst (.int 1)) (acons (cst (.str "1")) (anil)))) (acons (dsp .tup (acons (cst (.bl false)) (anil))) (anil)))))))))) (anil))))))
    (sq (sPar 4 5 (acons (callD g_law_c2_fault (acons (nm 2) (anil))) (acons (callD g_law_c2_fault (acons (nm 3) (anil))) (anil))))
    (sq (sSet 6 (dsp (.lst true) (acons (lamD g_law_c2_heard (callD g_times (acons (nm 2) (acons (nm 3) (anil)))) [2, 3] (anil)) (anil))))
    (sq (sExpr (mtD appL 6 (acons (lamD g_law_c2_heard (callD g_quotient (acons (nm 2) (acons (nm 3) (anil)))) [2, 3] (anil)) (anil))))
    (sq (sExpr (mtD appL 6 (acons (lamD g_law_c2_heard (callD g_times (acons (nm 1) (acons (nm 3) (anil)))) [1, 3] (anil)) (anil))))
    (sq (sExpr (mtD appL 6 (acons (lamD g_law_c2_heard (callD g_quotient (acons (nm 1) (acons (nm 3) (anil)))) [1, 3] (anil)) (anil))))
    (sq (sExpr (mtD appL 6 (acons (lamD g_law_c2_heard (callD g_quotient (acons (nm 2) (acons (dsp .tup (anil)) (anil)))) [2] (anil)) (anil))))
    (sq (sExpr (mtD appL 6 (acons (lamD g_law_c2_heard (callD g_quotient (acons (nm 1) (acons (dsp .tup (acons (cst (.int 0)) (acons (cst (.int 0)) (acons (cst (.int 0)) (anil))))) (anil)))) [1] (anil)) (anil))))
    (sq (sSet 7 (fz (bin addD (fz (bin addD (fz (bin mulD (dsp (.lst true) (acons (dsp .tup (acons (cst (.str "BadPoly")) (acons (vl 4) (anil)))) (anil))) (cst (.int 2)))) (fz (bin mulD (dsp (.lst true) (acons (dsp .tup (acons (cst (.str "BadPoly")) (acons (vl 5) (anil)))) (anil))) (cst (.int 2)))))) (fz (dsp (.lst true) (acons (dsp .tup (acons (cst (.str "BadPoly")) (acons (vl 4) (anil)))) (acons (dsp .tup (acons (cst (.str "Zero")) (acons (dsp .tup (acons (cst (.int 0)) (acons (cst (.int 0)) (acons (cst (.int 0)) (anil))))) (anil)))) (anil))))))))
    (sq (sIf (notT (tst (callD g_law_yv_same (acons (uno tupleD (nm 6)) (acons (uno tupleD (nm 7)) (anil)))))) (sRet (cst (.bl false))) (sNil))
    (sq (sFor (seqS (dsp (.lst true) (acons (cst (.int 2147483647)) (acons (uno negD (cst (.int 1))) (acons (cst .non) (acons (cst (.bl true)) (acons (cst (.str "0")) (acons (dsp .tup (acons (cst (.int 0)) (anil))) (acons (bin powD (cst (.int 10)) (cst (.int 30))) (anil)))))))))) (gN 8) (sIf (notT (tst (callD g_law_yv_same (acons (lamD g_law_c2_heard (callD g_value (acons (nm 1) (acons (nm 8) (anil)))) [1, 8] (anil)) (acons (dsp .tup (acons (cst (.str "BadResidue")) (acons (vl 8) (anil)))) (anil)))))) (sRet (cst (.bl false))) (sNil)))
    (sRet (cst (.bl true))))))))))))))
def b_law_c2_refused_right : SDen := B_law_c2_refused_right d_law_c2_fault d_law_c2_heard d_law_one d_law_yv_same d_quotient d_times d_value
def d_law_c2_refused_right : List D → Rt := nk0 (fnD 2 9 fx_law_c2_refused_right b_law_c2_refused_right)
abbrev N_law_pool : List Str := ["script", "digits", "stirred", "at", "cell"]
def fx_law_pool : Nat → Bool := fun i => i == 0
def b_law_pool : SDen :=
    sq (sAsg (dsp .tup (acons (cst (.int 0)) (acons (cst (.int 7)) (anil)))) (gT 2 (gC (gN 1) (gC (gN 2) (gNo)))))
    (sq (sFor (rgS1 (uno lenD (nm 0))) (gN 3) (sq (sSet 4 (uno intD (bin max2D (bin ixD (nm 0) (nm 3)) (bin subD (uno negD (cst (.int 1))) (bin ixD (nm 0) (nm 3))))))
    (sq (sSet 2 (bin modD (uno intD (bin addD (bin addD (bin mulD (nm 2) (cst (.int 48271))) (bin modD (nm 4) (cst (.int 2147483629)))) (cst (.int 11)))) (cst (.int 2147483647))))
    (sSet 1 (ifE (andT (tst (bin geD (nm 4) (bin powD (cst (.int 10)) (cst (.int 12))))) (tst (bin ltD (nm 1) (bin powD (cst (.int 10)) (cst (.int 60)))))) (uno intD (bin addD (bin mulD (nm 1) (bin powD (cst (.int 10)) (cst (.int 60)))) (bin modD (nm 4) (bin powD (cst (.int 10)) (cst (.int 60)))))) (vl 1))))))
    (sRet (dsp (.lst true) (acons (vl 1) (acons (vl 2) (acons (cst (.int 0)) (anil)))))))
def d_law_pool : List D → Rt := nk0 (fnD 1 5 fx_law_pool b_law_pool)
abbrev N_law : List Str := ["script", "jar", "go", "one", "two"]
def fx_law : Nat → Bool := fun i => i == 0
def B_law (g_law_c2_forms_right g_law_c2_hand_right g_law_c2_poly g_law_c2_products_right g_law_c2_quotients_right g_law_c2_refused_right g_law_one g_law_pool : List D → Rt) : SDen :=
    sq (sSet 1 (callD g_law_pool (acons (nm 0) (anil))))
    (sq (sFor (rgS1 (cst (.int 6))) (gN 2) (sq (sPar 3 4 (acons (callD g_law_c2_poly (acons (nm 1) (acons (cst (.int 40)) (anil)))) (acons (callD g_law_c2_poly (acons (nm 1) (acons (fz (callD g_law_one (acons (nm 1) (acons (fz (dsp (.lst true) (acons (cst (.int 3)) (acons (cst (.int 8)) (acons (cst (.int 20)) (acons (cst (.int 40)) (anil))))))) (anil))))) (anil)))) (anil))))
    (sq (sIf (orT (notT (tst (callD g_law_c2_forms_right (acons (nm 1) (acons (nm 3) (anil)))))) (notT (tst (callD g_law_c2_products_right (acons (nm 1) (acons (nm 3) (acons (nm 4) (anil)))))))) (sRet (cst (.bl false))) (sNil))
    (sIf (orT (notT (tst (callD g_law_c2_quotients_right (acons (nm 1) (acons (nm 3) (acons (nm 4) (anil))))))) (notT (tst (callD g_law_c2_refused_right (acons (nm 1) (acons (nm 3) (anil))))))) (sRet (cst (.bl false))) (sNil)))))
    (sRet (callD g_law_c2_hand_right anil)))
def b_law : SDen := B_law d_law_c2_forms_right d_law_c2_hand_right d_law_c2_poly d_law_c2_products_right d_law_c2_quotients_right d_law_c2_refused_right d_law_one d_law_pool
def d_law : List D → Rt := nk0 (fnD 1 5 fx_law b_law)
/-! ### facts of the program -/
def tf : List He.Defn := [("_law_c2_forms_right", none), ("_law_c2_products_right", none), ("_law_c2_other_right", none), ("_law_c2_at_right", none), ("_law_c2_quotients_right", none), ("_law_c2_refused_right", none), ("_law_c2_hand_right", none)]
def fI (K : PySem.W.Frag) : Addr := He.ma K (He.ga K "Refused") "__init__"
structure Fx (K : PySem.W.Frag) (mg : Str → Option Value) : Prop where
  n_ValueError : mg "ValueError" = none
  n_bool : mg "bool" = none
  n_enumerate : mg "enumerate" = none
  n_int : mg "int" = none
  n_isinstance : mg "isinstance" = none
  n_len : mg "len" = none
  n_list : mg "list" = none
  n_max : mg "max" = none
  n_min : mg "min" = none
  n_range : mg "range" = none
  n_str : mg "str" = none
  n_tuple : mg "tuple" = none
  i_PRIME : ∃ t, mg "PRIME" = some (.int 2147483647 t)
  i_MOST_NUMBERS : ∃ t, mg "MOST_NUMBERS" = some (.int 40 t)
  g_Refused : mg "Refused" = some (.ref (He.ga K "Refused"))
  g_BadResidue : mg "BadResidue" = some (.ref (He.ga K "BadResidue"))
  g_BadPoly : mg "BadPoly" = some (.ref (He.ga K "BadPoly"))
  g_Zero : mg "Zero" = some (.ref (He.ga K "Zero"))
  g_is_residue : mg "is_residue" = some (.ref (He.ga K "is_residue"))
  F_is_residue : ∃ fd, Fun K "is_residue" "is_residue" s_is_residue (He.ga K "is_residue") fd
  k_is_residue : PySem.W.keepIn K (.ref (He.ga K "is_residue")) = true
  g_wrong_residues : mg "wrong_residues" = some (.ref (He.ga K "wrong_residues"))
  F_wrong_residues : ∃ fd, Fun K "wrong_residues" "wrong_residues" s_wrong_residues (He.ga K "wrong_residues") fd
  k_wrong_residues : PySem.W.keepIn K (.ref (He.ga K "wrong_residues")) = true
  g_power : mg "power" = some (.ref (He.ga K "power"))
  F_power : ∃ fd, Fun K "power" "power" s_power (He.ga K "power") fd
  k_power : PySem.W.keepIn K (.ref (He.ga K "power")) = true
  g_inverse_of : mg "inverse_of" = some (.ref (He.ga K "inverse_of"))
  F_inverse_of : ∃ fd, Fun K "inverse_of" "inverse_of" s_inverse_of (He.ga K "inverse_of") fd
  k_inverse_of : PySem.W.keepIn K (.ref (He.ga K "inverse_of")) = true
  g_value_at : mg "value_at" = some (.ref (He.ga K "value_at"))
  F_value_at : ∃ fd, Fun K "value_at" "value_at" s_value_at (He.ga K "value_at") fd
  k_value_at : PySem.W.keepIn K (.ref (He.ga K "value_at")) = true
  g_trimmed : mg "trimmed" = some (.ref (He.ga K "trimmed"))
  F_trimmed : ∃ fd, Fun K "trimmed" "trimmed" s_trimmed (He.ga K "trimmed") fd
  k_trimmed : PySem.W.keepIn K (.ref (He.ga K "trimmed")) = true
  g_product_of : mg "product_of" = some (.ref (He.ga K "product_of"))
  F_product_of : ∃ fd, Fun K "product_of" "product_of" s_product_of (He.ga K "product_of") fd
  k_product_of : PySem.W.keepIn K (.ref (He.ga K "product_of")) = true
  g_quotient_of : mg "quotient_of" = some (.ref (He.ga K "quotient_of"))
  F_quotient_of : ∃ fd, Fun K "quotient_of" "quotient_of" s_quotient_of (He.ga K "quotient_of") fd
  k_quotient_of : PySem.W.keepIn K (.ref (He.ga K "quotient_of")) = true
  g_made_poly : mg "made_poly" = some (.ref (He.ga K "made_poly"))
  F_made_poly : ∃ fd, Fun K "made_poly" "made_poly" s_made_poly (He.ga K "made_poly") fd
  k_made_poly : PySem.W.keepIn K (.ref (He.ga K "made_poly")) = true
  g_value : mg "value" = some (.ref (He.ga K "value"))
  F_value : ∃ fd, Fun K "value" "value" s_value (He.ga K "value") fd
  k_value : PySem.W.keepIn K (.ref (He.ga K "value")) = true
  g_times : mg "times" = some (.ref (He.ga K "times"))
  F_times : ∃ fd, Fun K "times" "times" s_times (He.ga K "times") fd
  k_times : PySem.W.keepIn K (.ref (He.ga K "times")) = true
  g_quotient : mg "quotient" = some (.ref (He.ga K "quotient"))
  F_quotient : ∃ fd, Fun K "quotient" "quotient" s_quotient (He.ga K "quotient") fd
  k_quotient : PySem.W.keepIn K (.ref (He.ga K "quotient")) = true
  g_law_pool : mg "_law_pool" = some (.ref (He.ga K "_law_pool"))
  F_law_pool : ∃ fd, Fun K "_law_pool" "_law_pool" s_law_pool (He.ga K "_law_pool") fd
  k_law_pool : PySem.W.keepIn K (.ref (He.ga K "_law_pool")) = true
  g_law_take : mg "_law_take" = some (.ref (He.ga K "_law_take"))
  F_law_take : ∃ fd, Fun K "_law_take" "_law_take" s_law_take (He.ga K "_law_take") fd
  k_law_take : PySem.W.keepIn K (.ref (He.ga K "_law_take")) = true
  g_law_one : mg "_law_one" = some (.ref (He.ga K "_law_one"))
  F_law_one : ∃ fd, Fun K "_law_one" "_law_one" s_law_one (He.ga K "_law_one") fd
  k_law_one : PySem.W.keepIn K (.ref (He.ga K "_law_one")) = true
  g_law_yv_is_whole : mg "_law_yv_is_whole" = some (.ref (He.ga K "_law_yv_is_whole"))
  F_law_yv_is_whole : ∃ fd, Fun K "_law_yv_is_whole" "_law_yv_is_whole" s_law_yv_is_whole (He.ga K "_law_yv_is_whole") fd
  k_law_yv_is_whole : PySem.W.keepIn K (.ref (He.ga K "_law_yv_is_whole")) = true
  g_law_yv_is_in : mg "_law_yv_is_in" = some (.ref (He.ga K "_law_yv_is_in"))
  F_law_yv_is_in : ∃ fd, Fun K "_law_yv_is_in" "_law_yv_is_in" s_law_yv_is_in (He.ga K "_law_yv_is_in") fd
  k_law_yv_is_in : PySem.W.keepIn K (.ref (He.ga K "_law_yv_is_in")) = true
  g_law_yv_same : mg "_law_yv_same" = some (.ref (He.ga K "_law_yv_same"))
  F_law_yv_same : ∃ fd, Fun K "_law_yv_same" "_law_yv_same" s_law_yv_same (He.ga K "_law_yv_same") fd
  k_law_yv_same : PySem.W.keepIn K (.ref (He.ga K "_law_yv_same")) = true
  g_law_yv_is_residue : mg "_law_yv_is_residue" = some (.ref (He.ga K "_law_yv_is_residue"))
  F_law_yv_is_residue : ∃ fd, Fun K "_law_yv_is_residue" "_law_yv_is_residue" s_law_yv_is_residue (He.ga K "_law_yv_is_residue") fd
  k_law_yv_is_residue : PySem.W.keepIn K (.ref (He.ga K "_law_yv_is_residue")) = true
  g_law_yv_residue : mg "_law_yv_residue" = some (.ref (He.ga K "_law_yv_residue"))
  F_law_yv_residue : ∃ fd, Fun K "_law_yv_residue" "_law_yv_residue" s_law_yv_residue (He.ga K "_law_yv_residue") fd
  k_law_yv_residue : PySem.W.keepIn K (.ref (He.ga K "_law_yv_residue")) = true
  g_law_yv_bent : mg "_law_yv_bent" = some (.ref (He.ga K "_law_yv_bent"))
  F_law_yv_bent : ∃ fd, Fun K "_law_yv_bent" "_law_yv_bent" s_law_yv_bent (He.ga K "_law_yv_bent") fd
  k_law_yv_bent : PySem.W.keepIn K (.ref (He.ga K "_law_yv_bent")) = true
  g_law_c2_heard : mg "_law_c2_heard" = some (.ref (He.ga K "_law_c2_heard"))
  F_law_c2_heard : ∃ fd, Fun K "_law_c2_heard" "_law_c2_heard" s_law_c2_heard (He.ga K "_law_c2_heard") fd
  k_law_c2_heard : PySem.W.keepIn K (.ref (He.ga K "_law_c2_heard")) = true
  g_law_c2_tells : mg "_law_c2_tells" = some (.ref (He.ga K "_law_c2_tells"))
  F_law_c2_tells : ∃ fd, Fun K "_law_c2_tells" "_law_c2_tells" s_law_c2_tells (He.ga K "_law_c2_tells") fd
  k_law_c2_tells : PySem.W.keepIn K (.ref (He.ga K "_law_c2_tells")) = true
  g_law_c2_fault : mg "_law_c2_fault" = some (.ref (He.ga K "_law_c2_fault"))
  F_law_c2_fault : ∃ fd, Fun K "_law_c2_fault" "_law_c2_fault" s_law_c2_fault (He.ga K "_law_c2_fault") fd
  k_law_c2_fault : PySem.W.keepIn K (.ref (He.ga K "_law_c2_fault")) = true
  g_law_c2_poly : mg "_law_c2_poly" = some (.ref (He.ga K "_law_c2_poly"))
  F_law_c2_poly : ∃ fd, Fun K "_law_c2_poly" "_law_c2_poly" s_law_c2_poly (He.ga K "_law_c2_poly") fd
  k_law_c2_poly : PySem.W.keepIn K (.ref (He.ga K "_law_c2_poly")) = true
  g_law_c2_value : mg "_law_c2_value" = some (.ref (He.ga K "_law_c2_value"))
  F_law_c2_value : ∃ fd, Fun K "_law_c2_value" "_law_c2_value" s_law_c2_value (He.ga K "_law_c2_value") fd
  k_law_c2_value : PySem.W.keepIn K (.ref (He.ga K "_law_c2_value")) = true
  g_law_c2_times : mg "_law_c2_times" = some (.ref (He.ga K "_law_c2_times"))
  F_law_c2_times : ∃ fd, Fun K "_law_c2_times" "_law_c2_times" s_law_c2_times (He.ga K "_law_c2_times") fd
  k_law_c2_times : PySem.W.keepIn K (.ref (He.ga K "_law_c2_times")) = true
  g_law_c2_cut : mg "_law_c2_cut" = some (.ref (He.ga K "_law_c2_cut"))
  F_law_c2_cut : ∃ fd, Fun K "_law_c2_cut" "_law_c2_cut" s_law_c2_cut (He.ga K "_law_c2_cut") fd
  k_law_c2_cut : PySem.W.keepIn K (.ref (He.ga K "_law_c2_cut")) = true
  g_law_c2_power : mg "_law_c2_power" = some (.ref (He.ga K "_law_c2_power"))
  F_law_c2_power : ∃ fd, Fun K "_law_c2_power" "_law_c2_power" s_law_c2_power (He.ga K "_law_c2_power") fd
  k_law_c2_power : PySem.W.keepIn K (.ref (He.ga K "_law_c2_power")) = true
  g_law_c2_quotient : mg "_law_c2_quotient" = some (.ref (He.ga K "_law_c2_quotient"))
  F_law_c2_quotient : ∃ fd, Fun K "_law_c2_quotient" "_law_c2_quotient" s_law_c2_quotient (He.ga K "_law_c2_quotient") fd
  k_law_c2_quotient : PySem.W.keepIn K (.ref (He.ga K "_law_c2_quotient")) = true
  g_law_c2_forms_right : mg "_law_c2_forms_right" = some (.ref (He.ga K "_law_c2_forms_right"))
  F_law_c2_forms_right : ∃ fd, Fun K "_law_c2_forms_right" "_law_c2_forms_right" s_law_c2_forms_right (He.ga K "_law_c2_forms_right") fd
  k_law_c2_forms_right : PySem.W.keepIn K (.ref (He.ga K "_law_c2_forms_right")) = true
  g_law_c2_products_right : mg "_law_c2_products_right" = some (.ref (He.ga K "_law_c2_products_right"))
  F_law_c2_products_right : ∃ fd, Fun K "_law_c2_products_right" "_law_c2_products_right" s_law_c2_products_right (He.ga K "_law_c2_products_right") fd
  k_law_c2_products_right : PySem.W.keepIn K (.ref (He.ga K "_law_c2_products_right")) = true
  g_law_c2_other_right : mg "_law_c2_other_right" = some (.ref (He.ga K "_law_c2_other_right"))
  F_law_c2_other_right : ∃ fd, Fun K "_law_c2_other_right" "_law_c2_other_right" s_law_c2_other_right (He.ga K "_law_c2_other_right") fd
  k_law_c2_other_right : PySem.W.keepIn K (.ref (He.ga K "_law_c2_other_right")) = true
  g_law_c2_at_right : mg "_law_c2_at_right" = some (.ref (He.ga K "_law_c2_at_right"))
  F_law_c2_at_right : ∃ fd, Fun K "_law_c2_at_right" "_law_c2_at_right" s_law_c2_at_right (He.ga K "_law_c2_at_right") fd
  k_law_c2_at_right : PySem.W.keepIn K (.ref (He.ga K "_law_c2_at_right")) = true
  g_law_c2_quotients_right : mg "_law_c2_quotients_right" = some (.ref (He.ga K "_law_c2_quotients_right"))
  F_law_c2_quotients_right : ∃ fd, Fun K "_law_c2_quotients_right" "_law_c2_quotients_right" s_law_c2_quotients_right (He.ga K "_law_c2_quotients_right") fd
  k_law_c2_quotients_right : PySem.W.keepIn K (.ref (He.ga K "_law_c2_quotients_right")) = true
  g_law_c2_refused_right : mg "_law_c2_refused_right" = some (.ref (He.ga K "_law_c2_refused_right"))
  F_law_c2_refused_right : ∃ fd, Fun K "_law_c2_refused_right" "_law_c2_refused_right" s_law_c2_refused_right (He.ga K "_law_c2_refused_right") fd
  k_law_c2_refused_right : PySem.W.keepIn K (.ref (He.ga K "_law_c2_refused_right")) = true
  g_law_c2_hand_right : mg "_law_c2_hand_right" = some (.ref (He.ga K "_law_c2_hand_right"))
  F_law_c2_hand_right : ∃ fd, Fun K "_law_c2_hand_right" "_law_c2_hand_right" s_law_c2_hand_right (He.ga K "_law_c2_hand_right") fd
  k_law_c2_hand_right : PySem.W.keepIn K (.ref (He.ga K "_law_c2_hand_right")) = true
  g_law : mg "law" = some (.ref (He.ga K "law"))
  F_law : ∃ fd, Fun K "law" "law" s_law (He.ga K "law") fd
  k_law : PySem.W.keepIn K (.ref (He.ga K "law")) = true
  FI : ∃ fd, Fun K "__init__" "Refused.__init__" s_Rinit (fI K) fd
  vI : PySem.W.findCls K (.type "ValueError") (.type "type") "__init__" = some (.val (.builtin "ValueError.__init__"))
  tI : PySem.W.typeIn K (.ref (fI K)) = some (.type "function")
  eA : ∀ x ∈ errs, ErrF K (fI K) (He.ga K x)
  gA : ∀ x ∈ errs, mg x = some (.ref (He.ga K x))
  xA : ∀ x ∈ errs, PySem.W.exmOne K (.ref (He.ga K x)) (.ref (He.ga K "Refused")) = some true
  kA : ∀ x ∈ errs, ∀ y ∈ errs, PySem.W.kitOne K (.ref (He.ga K x)) (.ref (He.ga K y)) = some (decide (x = y))
  nd : (tf.map fun p => (He.cT K p).2).Nodup
section
variable {P : Program} {w : World} {K : PySem.W.Frag} {mg : Str → Option Value} {base : Heap}
theorem Fx.sub (W : Fx K mg) (n : Str) (C : Addr) (b : Bool) (h : mg n = some (.ref C)) (e : subE n = some b) : PySem.W.exmOne K (.ref C) (.ref (He.ga K "Refused")) = some b := by
  unfold subE at e
  split at e
  · rename_i hn
    cases e
    have z := (W.gA n hn).symm.trans h
    cases z
    exact W.xA n hn
  · cases e
theorem Fx.mem {n : Str} (e : subE n = some true) : n ∈ errs := by
  unfold subE at e
  split at e
  · assumption
  · cases e
theorem Fx.err (W : Fx K mg) (n : Str) (C : Addr) (e : subE n = some true) (h : mg n = some (.ref C)) : ErrF K (fI K) C := by
  have z := (W.gA n (Fx.mem e)).symm.trans h
  cases z
  exact W.eA n (Fx.mem e)
theorem Fx.kit (W : Fx K mg) (n : Str) (C : Addr) (e : subE n = some true) (h : mg n = some (.ref C)) (y : Str) (hy : y ∈ errs) : PySem.W.kitOne K (.ref C) (.ref (He.ga K y)) = some (decide (n = y)) := by
  have z := (W.gA n (Fx.mem e)).symm.trans h
  cases z
  exact W.kA n (Fx.mem e) y hy
theorem Fx.e_BadResidue (W : Fx K mg) : ErrF K (fI K) (He.ga K "BadResidue") := W.eA "BadResidue" (by decide)
theorem Fx.e_BadPoly (W : Fx K mg) : ErrF K (fI K) (He.ga K "BadPoly") := W.eA "BadPoly" (by decide)
theorem Fx.e_Zero (W : Fx K mg) : ErrF K (fI K) (He.ga K "Zero") := W.eA "Zero" (by decide)
abbrev TT (K : PySem.W.Frag) : List (Addr × Str) := tf.map (qtab K)
/-- the world's part: tables of code objects -/
structure Wd (K : PySem.W.Frag) (mg : Str → Option Value) (base : Heap) : Prop extends Fx K mg where
  tb : ∀ p ∈ tf, LamX.TabB base mg (He.cT K p).1 (He.cT K p).2
theorem own_fx {c : Y.Ctx} {fx : Nat → Bool} {l : List Nat} (hfx : c.fx = fx) (h : l.all (fun i => !fx i) = true) : ∀ i ∈ l, c.fx i = false := fun i hi => by
  rw [hfx]
  simpa using List.all_eq_true.mp h i hi
theorem binds_mk {x qual : Str} {st : Stmt} {f : Addr} {fd : FuncData} {ps : List Str} (F : Fun K x qual st f fd) (h : ∀ (kV doc pm : Value) (an : Option Addr) (cdv ct : Value) (us : List Value), us.length = ps.length → bindArgs (PySem.W.fnOf x qual (defArgs st) (defBody st) (defScope st) .none kV doc pm an cdv ct) ⟨us, []⟩ = pure (ps.zip us)) : Binds K fd ps [] := F.binds h
theorem scI : FnScope ["self", "what"] ["self", "what"] (defScope s_Rinit) := ⟨rfl, rfl, rfl, by decide +kernel, rfl, by decide +kernel, by decide +kernel⟩
theorem ri_any (W : Fx K mg) {fd : FuncData} (F : Fun K "__init__" "Refused.__init__" s_Rinit (fI K) fd) : FnOk P w K mg base (L2N.CX P w) 1 (fI K) fd ["self", "what"] (spRi K) := by
  refine okN F scI (fun vs H Q E h => ?_) (fun cdv A outer s H vs Q E hr h => ?_)
  · obtain ⟨a, C, v, rfl, _⟩ := h
    rfl
  · obtain ⟨a, C, v, rfl, T, hw, ha, q⟩ := h
    refine ⟨_, pss_cons (ps_expr (pe_veinit rfl W.n_ValueError W.vI (pa_cons (pv 0) (pa_cons (pv 1) pa_nil)))) (pss_one (ps_ost (pv 0) (pv 1))), ?_⟩
    exact ⟨_, rfl, _, rfl, a, C, [v], rfl, (by show 1 ≤ 1000; decide), T, ha, _, rfl, _, rfl, a, C, rfl, T, hw, .inl ⟨ha, q⟩⟩
theorem bindI {fd : FuncData} (F : Fun K "__init__" "Refused.__init__" s_Rinit (fI K) fd) : Binds K fd ["self", "what"] [] := binds_mk F fun _ _ _ _ _ _ us hl => match us, hl with | [_, _], _ => rfl
theorem sc_law_yv_is_whole : FnScope N_law_yv_is_whole ["thing"] (defScope s_law_yv_is_whole) := ⟨rfl, rfl, rfl, by decide +kernel, rfl, by decide +kernel, by decide +kernel⟩
theorem a_law_yv_is_whole (W : Wd K mg base) {fd : FuncData} (Fn : Fun K "_law_yv_is_whole" "_law_yv_is_whole" s_law_yv_is_whole (He.ga K "_law_yv_is_whole") fd) : FnA P w K mg base (TT K) 5 1 (He.ga K "_law_yv_is_whole") fd ["thing"] d_law_yv_is_whole := by
  have S := sc_law_yv_is_whole
  refine fnA_of0 (N := N_law_yv_is_whole) (ps := ["thing"]) (k := 0) (fx := fx_law_yv_is_whole) (body := b_law_yv_is_whole) Fn S (fun c A outer s H E hK hM hT hfx hr hG => ?_)
  unfold b_law_yv_is_whole
  exact ss_one (s_ret (t_and (t_isi isTy_int hK W.n_isinstance W.n_int (by decide +kernel) (t_nm 0)) (t_one (t_not (t_isi isTy_bool hK W.n_isinstance W.n_bool (by decide +kernel) (t_nm 0))))))
theorem y_law_yv_is_whole (W : Wd K mg base) : FnY P w K mg base (TT K) 5 1 (He.ga K "_law_yv_is_whole") d_law_yv_is_whole := by
  obtain ⟨fd, Fn⟩ := W.F_law_yv_is_whole
  exact (a_law_yv_is_whole W Fn).y0 (binds_mk Fn fun _ _ _ _ _ _ us hl => match us, hl with | [_], _ => rfl)
theorem sc_law_yv_is_in : FnScope N_law_yv_is_in ["thing", "low", "high"] (defScope s_law_yv_is_in) := ⟨rfl, rfl, rfl, by decide +kernel, rfl, by decide +kernel, by decide +kernel⟩
theorem a_law_yv_is_in (W : Wd K mg base) {fd : FuncData} (Fn : Fun K "_law_yv_is_in" "_law_yv_is_in" s_law_yv_is_in (He.ga K "_law_yv_is_in") fd) : FnA P w K mg base (TT K) 5 2 (He.ga K "_law_yv_is_in") fd ["thing", "low", "high"] d_law_yv_is_in := by
  have S := sc_law_yv_is_in
  refine fnA_of0 (N := N_law_yv_is_in) (ps := ["thing", "low", "high"]) (k := 1) (fx := fx_law_yv_is_in) (body := b_law_yv_is_in) Fn S (fun c A outer s H E hK hM hT hfx hr hG => ?_)
  unfold b_law_yv_is_in B_law_yv_is_in
  exact ss_one (s_ret (t_and (t_call (FnY.at hT (y_law_yv_is_whole W)) hK hM (hr.mono (by decide)) (.inl hG) W.g_law_yv_is_whole (W.k_law_yv_is_whole) (ta_cons (t_nm 0) (ta_nil))) (t_one (t_chn o_le o_le (t_nm 1) (t_nm 0) (t_nm 2)))))
theorem y_law_yv_is_in (W : Wd K mg base) : FnY P w K mg base (TT K) 5 2 (He.ga K "_law_yv_is_in") d_law_yv_is_in := by
  obtain ⟨fd, Fn⟩ := W.F_law_yv_is_in
  exact (a_law_yv_is_in W Fn).y0 (binds_mk Fn fun _ _ _ _ _ _ us hl => match us, hl with | [_, _, _], _ => rfl)
theorem sc_law_yv_is_residue : FnScope N_law_yv_is_residue ["thing"] (defScope s_law_yv_is_residue) := ⟨rfl, rfl, rfl, by decide +kernel, rfl, by decide +kernel, by decide +kernel⟩
theorem a_law_yv_is_residue (W : Wd K mg base) {fd : FuncData} (Fn : Fun K "_law_yv_is_residue" "_law_yv_is_residue" s_law_yv_is_residue (He.ga K "_law_yv_is_residue") fd) : FnA P w K mg base (TT K) 5 3 (He.ga K "_law_yv_is_residue") fd ["thing"] d_law_yv_is_residue := by
  have S := sc_law_yv_is_residue
  refine fnA_of0 (N := N_law_yv_is_residue) (ps := ["thing"]) (k := 2) (fx := fx_law_yv_is_residue) (body := b_law_yv_is_residue) Fn S (fun c A outer s H E hK hM hT hfx hr hG => ?_)
  unfold b_law_yv_is_residue B_law_yv_is_residue
  exact ss_one (s_ret (t_call (FnY.at hT (y_law_yv_is_in W)) hK hM (hr.mono (by decide)) (.inl hG) W.g_law_yv_is_in (W.k_law_yv_is_in) (ta_cons (t_nm 0) (ta_cons (t_int) (ta_cons (t_int) (ta_nil))))))
theorem y_law_yv_is_residue (W : Wd K mg base) : FnY P w K mg base (TT K) 5 3 (He.ga K "_law_yv_is_residue") d_law_yv_is_residue := by
  obtain ⟨fd, Fn⟩ := W.F_law_yv_is_residue
  exact (a_law_yv_is_residue W Fn).y0 (binds_mk Fn fun _ _ _ _ _ _ us hl => match us, hl with | [_], _ => rfl)
theorem sc_law_c2_fault : FnScope N_law_c2_fault ["thing"] (defScope s_law_c2_fault) := ⟨rfl, rfl, rfl, by decide +kernel, rfl, by decide +kernel, by decide +kernel⟩
theorem a_law_c2_fault (W : Wd K mg base) {fd : FuncData} (Fn : Fun K "_law_c2_fault" "_law_c2_fault" s_law_c2_fault (He.ga K "_law_c2_fault") fd) : FnA P w K mg base (TT K) 5 4 (He.ga K "_law_c2_fault") fd ["thing"] d_law_c2_fault := by
  have S := sc_law_c2_fault
  refine fnA_of0 (N := N_law_c2_fault) (ps := ["thing"]) (k := 3) (fx := fx_law_c2_fault) (body := b_law_c2_fault) Fn S (fun c A outer s H E hK hM hT hfx hr hG => ?_)
  unfold b_law_c2_fault B_law_c2_fault
  exact ss_cons (s_if (TrW.t (tw_or (tt_not (tt_val (t_isi isTy_tuple hK W.n_isinstance W.n_tuple (by decide +kernel) (t_nm 0)))) (tw_or1 (tt_gt (t_len hK W.n_len (t_nm 0)) (t_int))))) (ss_one (s_ret (t_neg (t_int)))) (ss_nil))
    (ss_cons (s_setLc (i := 1) (own := [("at", 2)]) rfl S.nd rfl rfl (congrFun hfx 1) (sw_true rfl rfl rfl (by decide +kernel)) (own_fx hfx (by decide)) (by decide) (i_range1 W.n_range (t_len hK W.n_len (t_nm 0))) (blkOk_by (own := [("at", 2)]) (N := N_law_c2_fault) (sc := (defScope s_law_c2_fault)) (by decide +kernel)) (fun _ _ _ _ _ => g_name (i := 2) S.nd rfl (by first | exact Or.inl rfl | exact Or.inr rfl) (congrFun hfx 2)) (fun _ _ _ _ _ => tts_one (tt_not (tt_val (t_call (FnY.at hT (y_law_yv_is_residue W)) hK hM (hr.mono (by decide)) (.inl hG) W.g_law_yv_is_residue (W.k_law_yv_is_residue) (ta_cons (t_ixA hK (hu_of hr) (t_nm 0) (t_nm 2)) (ta_nil)))))) (fun _ _ _ _ _ => t_vl 2))
    (ss_one (s_ret (t_if (tt_ne hK hr.units (t_nm 1) (t_lst (ta_nil))) (t_ixA hK (hu_of hr) (t_nm 1) (t_int)) (t_non)))))
theorem y_law_c2_fault (W : Wd K mg base) : FnY P w K mg base (TT K) 5 4 (He.ga K "_law_c2_fault") d_law_c2_fault := by
  obtain ⟨fd, Fn⟩ := W.F_law_c2_fault
  exact (a_law_c2_fault W Fn).y0 (binds_mk Fn fun _ _ _ _ _ _ us hl => match us, hl with | [_], _ => rfl)
theorem sc_law_c2_heard : FnScope N_law_c2_heard ["call"] (defScope s_law_c2_heard) := ⟨rfl, rfl, rfl, by decide +kernel, rfl, by decide +kernel, by decide +kernel⟩
theorem a_law_c2_heard (W : Wd K mg base) {fd : FuncData} (Fn : Fun K "_law_c2_heard" "_law_c2_heard" s_law_c2_heard (He.ga K "_law_c2_heard") fd) : FnA P w K mg base (TT K) 5 6 (He.ga K "_law_c2_heard") fd ["call"] d_law_c2_heard := by
  have S := sc_law_c2_heard
  refine fnA_of (N := N_law_c2_heard) (ps := ["call"]) (k := 5) (fx := fx_law_c2_heard) (body := b_law_c2_heard) Fn S (fun c A outer s H E hK hM hT hfx hr hG0 => ?_)
  have hG : CloAt (cxOf (L2N.CX P w) P w K mg base N_law_c2_heard "_law_c2_heard" (defScope s_law_c2_heard) (He.ga K "_law_c2_heard") fd.code A outer s H E) c 5 := .inr ⟨rfl, hG0⟩
  unfold b_law_c2_heard
  exact ss_one (s_try (x := "Refused") (i := 1) rfl rfl S.nd rfl rfl ⟨rfl, by decide, .inl W.g_Refused⟩ hK hM (congrFun hfx 1) (fun n C b => W.sub n C b) (fun pn xe hp => ss_one (s_ret (t_tup (ta_cons (t_str) (ta_cons (t_clo (LC := 5) (i := 0) (hr.mono (by decide)) hG) (ta_nil)))))) (fun n dD a oe cls d pn c' hn Ix hz hf => by
      have hK0 := hK
      have hM0 := hM
      have hot := hotC_of (X := (cxOf (L2N.CX P w) P w K mg base N_law_c2_heard "_law_c2_heard" (defScope s_law_c2_heard) (He.ga K "_law_c2_heard") fd.code A outer s H E)) (a := a) (pn := pn) hz hf
      have hz := zc_of hz
      have hfx : c'.fx = fun j => fx_law_c2_heard j || j == 1 := by rw [Ix.fx, hfx]
      have hK := Ix.K.trans hK
      have hM := Ix.mg.trans hM
      have hT := Ix.T.trans hT
      have hx := fun C hC => W.err n C hn hC
      have hkit := fun C hC => W.kit n C hn hC
      exact ss_cons (s_set (i := 2) S.nd rfl (by first | exact Or.inl rfl | exact Or.inr rfl) (congrFun hfx 2) (t_lst (ta_cons (t_tup (ta_cons (t_str) (ta_cons (t_isX (X := (cxOf (L2N.CX P w) P w K mg base N_law_c2_heard "_law_c2_heard" (defScope s_law_c2_heard) (He.ga K "_law_c2_heard") fd.code A outer s H E)) (i := 1) rfl Ix hM0 (fun C hC => ⟨(hx C hC).i, hkit C hC "BadPoly" (by decide)⟩) hz hf W.n_isinstance W.g_BadPoly) (ta_nil)))) (ta_cons (t_tup (ta_cons (t_str) (ta_cons (t_isX (X := (cxOf (L2N.CX P w) P w K mg base N_law_c2_heard "_law_c2_heard" (defScope s_law_c2_heard) (He.ga K "_law_c2_heard") fd.code A outer s H E)) (i := 1) rfl Ix hM0 (fun C hC => ⟨(hx C hC).i, hkit C hC "BadResidue" (by decide)⟩) hz hf W.n_isinstance W.g_BadResidue) (ta_nil)))) (ta_nil))))) (ss_cons (s_expr (t_append (i := 2) rfl (ta_cons (t_tup (ta_cons (t_str) (ta_cons (t_isX (X := (cxOf (L2N.CX P w) P w K mg base N_law_c2_heard "_law_c2_heard" (defScope s_law_c2_heard) (He.ga K "_law_c2_heard") fd.code A outer s H E)) (i := 1) rfl Ix hM0 (fun C hC => ⟨(hx C hC).i, hkit C hC "Zero" (by decide)⟩) hz hf W.n_isinstance W.g_Zero) (ta_nil)))) (ta_nil)))) (ss_one (s_ret (t_tup (ta_cons (t_fz (t_join hK (t_lcY (own := [("name", 3), ("is_one", 4)]) hot S.nd (own_fx hfx (by decide)) (by decide) (i_seqY hK (t_vl 2)) (blkOk_by (own := [("name", 3), ("is_one", 4)]) (N := N_law_c2_heard) (sc := (defScope s_law_c2_heard)) (by decide +kernel)) (fun _ _ _ _ _ => g_tupY hK hot (gs_cons (g_name (i := 3) S.nd rfl (by first | exact Or.inl rfl | exact Or.inr rfl) (congrFun hfx 3)) (gs_cons (g_name (i := 4) S.nd rfl (by first | exact Or.inl rfl | exact Or.inr rfl) (congrFun hfx 4)) (gs_nil)))) (fun _ _ _ _ _ => tts_one (tt_val (t_nm 4))) (fun _ _ _ _ _ => t_vl 3)))) (ta_cons (t_what (X := (cxOf (L2N.CX P w) P w K mg base N_law_c2_heard "_law_c2_heard" (defScope s_law_c2_heard) (He.ga K "_law_c2_heard") fd.code A outer s H E)) (i := 1) rfl Ix hK0 hM0 (fun C hC => ⟨(hx C hC).x, (hx C hC).k.wha⟩) hz hf) (ta_nil)))))))))
theorem y_law_c2_heard (W : Wd K mg base) : FnY P w K mg base (TT K) 5 6 (He.ga K "_law_c2_heard") d_law_c2_heard := by
  obtain ⟨fd, Fn⟩ := W.F_law_c2_heard
  exact (a_law_c2_heard W Fn).y (binds_mk Fn fun _ _ _ _ _ _ us hl => match us, hl with | [_], _ => rfl)
theorem sc_law_take : FnScope N_law_take ["jar", "many"] (defScope s_law_take) := ⟨rfl, rfl, rfl, by decide +kernel, rfl, by decide +kernel, by decide +kernel⟩
theorem a_law_take (W : Wd K mg base) {fd : FuncData} (Fn : Fun K "_law_take" "_law_take" s_law_take (He.ga K "_law_take") fd) : FnA P w K mg base (TT K) 5 1 (He.ga K "_law_take") fd ["jar", "many"] d_law_take := by
  have S := sc_law_take
  refine fnA_of0 (N := N_law_take) (ps := ["jar", "many"]) (k := 0) (fx := fx_law_take) (body := b_law_take) Fn S (fun c A outer s H E hK hM hT hfx hr hG => ?_)
  unfold b_law_take
  exact ss_cons (s_if (tt_gt (t_ixA hK (hu_of hr) (t_nm 0) (t_int)) (t_int)) (ss_cons (s_set (i := 2) S.nd rfl (by first | exact Or.inl rfl | exact Or.inr rfl) (congrFun hfx 2) (t_mod (t_int1 W.n_int (t_ixA hK (hu_of hr) (t_nm 0) (t_int))) (t_nm 1)))
    (ss_cons (s_sto (i := 0) rfl (t_fdiv (t_ixA hK (hu_of hr) (t_nm 0) (t_int)) (t_nm 1)) (t_int))
    (ss_one (s_ret (t_nm 2))))) (ss_nil))
    (ss_cons (s_sto (i := 0) rfl (t_add hK (t_ixA hK (hu_of hr) (t_nm 0) (t_int)) (t_int)) (t_int))
    (ss_cons (s_sto (i := 0) rfl (t_mod (t_int1 W.n_int (t_add hK (t_add hK (t_mul hK (t_ixA hK (hu_of hr) (t_nm 0) (t_int)) (t_int)) (t_mul hK (t_int) (t_ixA hK (hu_of hr) (t_nm 0) (t_int)))) (t_int))) (t_int)) (t_int))
    (ss_one (s_ret (t_mod (t_int1 W.n_int (t_fdiv (t_mod (t_int1 W.n_int (t_mul hK (t_ixA hK (hu_of hr) (t_nm 0) (t_int)) (t_ixA hK (hu_of hr) (t_nm 0) (t_int)))) (t_int)) (t_int))) (t_nm 1))))))
theorem y_law_take (W : Wd K mg base) : FnY P w K mg base (TT K) 5 1 (He.ga K "_law_take") d_law_take := by
  obtain ⟨fd, Fn⟩ := W.F_law_take
  exact (a_law_take W Fn).y0 (binds_mk Fn fun _ _ _ _ _ _ us hl => match us, hl with | [_, _], _ => rfl)
theorem sc_law_one : FnScope N_law_one ["jar", "things"] (defScope s_law_one) := ⟨rfl, rfl, rfl, by decide +kernel, rfl, by decide +kernel, by decide +kernel⟩
theorem a_law_one (W : Wd K mg base) {fd : FuncData} (Fn : Fun K "_law_one" "_law_one" s_law_one (He.ga K "_law_one") fd) : FnA P w K mg base (TT K) 5 2 (He.ga K "_law_one") fd ["jar", "things"] d_law_one := by
  have S := sc_law_one
  refine fnA_of0 (N := N_law_one) (ps := ["jar", "things"]) (k := 1) (fx := fx_law_one) (body := b_law_one) Fn S (fun c A outer s H E hK hM hT hfx hr hG => ?_)
  unfold b_law_one B_law_one
  exact ss_one (s_ret (t_ixA hK (hu_of hr) (t_nm 1) (t_call (FnY.at hT (y_law_take W)) hK hM (hr.mono (by decide)) (.inl hG) W.g_law_take (W.k_law_take) (ta_cons (t_nm 0) (ta_cons (t_len hK W.n_len (t_nm 1)) (ta_nil))))))
theorem y_law_one (W : Wd K mg base) : FnY P w K mg base (TT K) 5 2 (He.ga K "_law_one") d_law_one := by
  obtain ⟨fd, Fn⟩ := W.F_law_one
  exact (a_law_one W Fn).y0 (binds_mk Fn fun _ _ _ _ _ _ us hl => match us, hl with | [_, _], _ => rfl)
theorem sc_law_yv_bent : FnScope N_law_yv_bent ["jar", "thing"] (defScope s_law_yv_bent) := ⟨rfl, rfl, rfl, by decide +kernel, rfl, by decide +kernel, by decide +kernel⟩
theorem r_law_yv_bent (W : Wd K mg base) {fd : FuncData} (Fn : Fun K "_law_yv_bent" "_law_yv_bent" s_law_yv_bent (He.ga K "_law_yv_bent") fd) : ∀ n, FnY P w K mg base (TT K) 5 (3 + n) (He.ga K "_law_yv_bent") (D_law_yv_bent n)
  | 0 => ⟨fun _ _ _ _ _ _ _ _ _ _ _ _ _ _ _ _ h => by obtain ⟨_, _, _, _, _, _, _, h⟩ := h; exact h.elim⟩
  | n + 1 => by
    have ih := r_law_yv_bent W Fn n
    have S := sc_law_yv_bent
    have A : FnA P w K mg base (TT K) 5 (3 + n + 1) (He.ga K "_law_yv_bent") fd ["jar", "thing"] (nk0 (fnD 2 6 fx_law_yv_bent (B_law_yv_bent d_law_one d_law_take (D_law_yv_bent n)))) := by
      refine fnA_of0 (N := N_law_yv_bent) (ps := ["jar", "thing"]) (k := 3 + n) (fx := fx_law_yv_bent) (body := B_law_yv_bent d_law_one d_law_take (D_law_yv_bent n)) Fn S (fun c A outer s H E hK hM hT hfx hr hG => ?_)
      unfold B_law_yv_bent
      exact ss_cons (s_set (i := 2) S.nd rfl (by first | exact Or.inl rfl | exact Or.inr rfl) (congrFun hfx 2) (t_fz (t_call (FnY.at hT (y_law_one W)) hK hM (hr.mono (by omega)) (.inl hG) W.g_law_one (W.k_law_one) (ta_cons (t_nm 0) (ta_cons (t_fz (t_lst (ta_cons (t_non) (ta_cons (t_str) (ta_cons (t_bl) (ta_cons (t_bl) (ta_cons (t_neg (t_int)) (ta_cons (t_int) (ta_cons (t_pow (t_int) (t_int)) (ta_cons (t_tup (ta_nil)) (ta_cons (t_tup (ta_cons (t_int) (ta_nil))) (ta_cons (t_fz (t_lst (ta_cons (t_int) (ta_nil)))) (ta_cons (t_str) (ta_nil)))))))))))))) (ta_nil))))))
        (ss_cons (s_if (TrW.t (tw_or (tt_not (tt_val (t_isi isTy_tuple hK W.n_isinstance W.n_tuple (by decide +kernel) (t_nm 1)))) (tw_or1 (tt_eq hK hr.units (t_nm 1) (t_tup (ta_nil)))))) (ss_one (s_ret (t_nm 2))) (ss_nil))
        (ss_cons (s_par (i := 3) (j := 4) rfl S.nd rfl rfl (by decide) (congrFun hfx 3) (congrFun hfx 4) rfl rfl (ta_cons (t_call (FnY.at hT (y_law_take W)) hK hM (hr.mono (by omega)) (.inl hG) W.g_law_take (W.k_law_take) (ta_cons (t_nm 0) (ta_cons (t_len hK W.n_len (t_nm 1)) (ta_nil)))) (ta_cons (t_call (FnY.at hT (y_law_take W)) hK hM (hr.mono (by omega)) (.inl hG) W.g_law_take (W.k_law_take) (ta_cons (t_nm 0) (ta_cons (t_int) (ta_nil)))) (ta_nil))))
        (ss_cons (s_if (tt_lt (t_nm 4) (t_int)) (ss_one (s_ret (t_add hK (t_add hK (t_slc hK (t_nm 1) (to_none) (to_some (t_nm 3))) (t_tup (ta_cons (t_call (FnY.at hT ih) hK hM (hr.mono (by omega)) (.inl hG) W.g_law_yv_bent (W.k_law_yv_bent) (ta_cons (t_nm 0) (ta_cons (t_ixA hK (hu_of hr) (t_nm 1) (t_nm 3)) (ta_nil)))) (ta_nil)))) (t_slc hK (t_nm 1) (to_some (t_add hK (t_nm 3) (t_int))) (to_none))))) (ss_nil))
        (ss_cons (s_set (i := 5) S.nd rfl (by first | exact Or.inl rfl | exact Or.inr rfl) (congrFun hfx 5) (t_lst (ta_cons (t_add hK (t_add hK (t_slc hK (t_nm 1) (to_none) (to_some (t_nm 3))) (t_tup (ta_cons (t_vl 2) (ta_nil)))) (t_slc hK (t_nm 1) (to_some (t_add hK (t_nm 3) (t_int))) (to_none))) (ta_cons (t_add hK (t_slc hK (t_nm 1) (to_none) (to_some (t_nm 3))) (t_slc hK (t_nm 1) (to_some (t_add hK (t_nm 3) (t_int))) (to_none))) (ta_cons (t_add hK (t_slc hK (t_nm 1) (to_none) (to_some (t_add hK (t_nm 3) (t_int)))) (t_slc hK (t_nm 1) (to_some (t_nm 3)) (to_none))) (ta_nil))))))
        (ss_cons (s_expr (t_extend (i := 5) rfl (ta_cons (t_lst (ta_cons (t_add hK (t_slc hK (t_nm 1) (to_none) (to_some (t_nm 3))) (t_rev hK (t_slc hK (t_nm 1) (to_some (t_nm 3)) (to_none)))) (ta_cons (t_fz (t_list hK W.n_list (t_nm 1))) (ta_cons (t_add hK (t_nm 1) (t_tup (ta_cons (t_vl 2) (ta_nil)))) (ta_nil))))) (ta_nil))))
        (ss_one (s_ret (t_ixA hK (hu_of hr) (t_nm 5) (t_sub (t_nm 4) (t_int))))))))))
    exact A.y0 (binds_mk Fn fun _ _ _ _ _ _ us hl => match us, hl with | [_, _], _ => rfl)
theorem y_law_yv_bent (W : Wd K mg base) : FnY P w K mg base (TT K) 5 11 (He.ga K "_law_yv_bent") d_law_yv_bent := by
  obtain ⟨fd, Fn⟩ := W.F_law_yv_bent
  exact r_law_yv_bent W Fn 8
theorem sc_law_yv_same : FnScope N_law_yv_same ["heard", "owed"] (defScope s_law_yv_same) := ⟨rfl, rfl, rfl, by decide +kernel, rfl, by decide +kernel, by decide +kernel⟩
theorem a_law_yv_same (W : Wd K mg base) {fd : FuncData} (Fn : Fun K "_law_yv_same" "_law_yv_same" s_law_yv_same (He.ga K "_law_yv_same") fd) : FnA P w K mg base (TT K) 5 2 (He.ga K "_law_yv_same") fd ["heard", "owed"] d_law_yv_same := by
  have S := sc_law_yv_same
  refine fnA_of0 (N := N_law_yv_same) (ps := ["heard", "owed"]) (k := 1) (fx := fx_law_yv_same) (body := b_law_yv_same) Fn S (fun c A outer s H E hK hM hT hfx hr hG => ?_)
  unfold b_law_yv_same B_law_yv_same
  exact ss_cons (s_set (i := 2) S.nd rfl (by first | exact Or.inl rfl | exact Or.inr rfl) (congrFun hfx 2) (t_lst (ta_cons (t_tup (ta_cons (t_vl 0) (ta_cons (t_vl 1) (ta_nil)))) (ta_nil))))
    (ss_cons (s_while (n := 1000) (passes_of rfl) (tt_ne hK hr.units (t_nm 2) (t_lst (ta_nil))) (ss_cons (s_asg (t_pop (i := 2) rfl) (g_un hK rfl (gs_cons (g_name (i := 3) S.nd rfl (by first | exact Or.inl rfl | exact Or.inr rfl) (congrFun hfx 3)) (gs_cons (g_name (i := 4) S.nd rfl (by first | exact Or.inl rfl | exact Or.inr rfl) (congrFun hfx 4)) (gs_nil)))))
    (ss_cons (s_if (tt_isN (t_nm 4) (t_non)) (ss_one (s_set (i := 5) S.nd rfl (by first | exact Or.inl rfl | exact Or.inr rfl) (congrFun hfx 5) (t_isN (t_nm 3) (t_non)))) (ss_one (s_if (tt_val (t_isi isTy_bool hK W.n_isinstance W.n_bool (by decide +kernel) (t_nm 4))) (ss_one (s_set (i := 5) S.nd rfl (by first | exact Or.inl rfl | exact Or.inr rfl) (congrFun hfx 5) (t_and (t_isi isTy_bool hK W.n_isinstance W.n_bool (by decide +kernel) (t_nm 3)) (t_one (t_eq hK hr.units (t_nm 3) (t_nm 4)))))) (ss_one (s_if (tt_val (t_isi isTy_int hK W.n_isinstance W.n_int (by decide +kernel) (t_nm 4))) (ss_one (s_set (i := 5) S.nd rfl (by first | exact Or.inl rfl | exact Or.inr rfl) (congrFun hfx 5) (t_and (t_call (FnY.at hT (y_law_yv_is_whole W)) hK hM (hr.mono (by decide)) (.inl hG) W.g_law_yv_is_whole (W.k_law_yv_is_whole) (ta_cons (t_nm 3) (ta_nil))) (t_one (t_eq hK hr.units (t_nm 3) (t_nm 4)))))) (ss_one (s_if (tt_val (t_isi isTy_str hK W.n_isinstance W.n_str (by decide +kernel) (t_nm 4))) (ss_one (s_set (i := 5) S.nd rfl (by first | exact Or.inl rfl | exact Or.inr rfl) (congrFun hfx 5) (t_and (t_isi isTy_str hK W.n_isinstance W.n_str (by decide +kernel) (t_nm 3)) (t_one (t_eq hK hr.units (t_nm 3) (t_nm 4)))))) (ss_cons (s_set (i := 5) S.nd rfl (by first | exact Or.inl rfl | exact Or.inr rfl) (congrFun hfx 5) (t_if (tt_val (t_isi isTy_tuple hK W.n_isinstance W.n_tuple (by decide +kernel) (t_nm 4))) (t_isi isTy_tuple hK W.n_isinstance W.n_tuple (by decide +kernel) (t_nm 3)) (t_isi isTy_list hK W.n_isinstance W.n_list (by decide +kernel) (t_nm 3))))
    (ss_cons (s_set (i := 5) S.nd rfl (by first | exact Or.inl rfl | exact Or.inr rfl) (congrFun hfx 5) (t_and (t_vl 5) (t_one (t_eq hK hr.units (t_len hK W.n_len (t_nm 3)) (t_len hK W.n_len (t_nm 4))))))
    (ss_one (s_expr (t_extend (i := 2) rfl (ta_cons (t_if (tt_val (t_nm 5)) (t_lc (own := [("at", 6)]) rfl S.nd (own_fx hfx (by decide)) (by decide) (i_range1 W.n_range (t_len hK W.n_len (t_nm 4))) (blkOk_by (own := [("at", 6)]) (N := N_law_yv_same) (sc := (defScope s_law_yv_same)) (by decide +kernel)) (fun _ _ _ _ _ => g_name (i := 6) S.nd rfl (by first | exact Or.inl rfl | exact Or.inr rfl) (congrFun hfx 6)) (fun _ _ _ _ _ => tts_nil) (fun _ _ _ _ _ => t_tup (ta_cons (t_ixA hK (hu_of hr) (t_nm 3) (t_nm 6)) (ta_cons (t_ixA hK (hu_of hr) (t_nm 4) (t_nm 6)) (ta_nil))))) (t_lst (ta_nil))) (ta_nil))))))))))))))
    (ss_one (s_if (tt_not (tt_val (t_nm 5))) (ss_one (s_ret (t_bl))) (ss_nil))))))
    (ss_one (s_ret (t_bl))))
theorem y_law_yv_same (W : Wd K mg base) : FnY P w K mg base (TT K) 5 2 (He.ga K "_law_yv_same") d_law_yv_same := by
  obtain ⟨fd, Fn⟩ := W.F_law_yv_same
  exact (a_law_yv_same W Fn).y0 (binds_mk Fn fun _ _ _ _ _ _ us hl => match us, hl with | [_, _], _ => rfl)
theorem sc_is_residue : FnScope N_is_residue ["thing"] (defScope s_is_residue) := ⟨rfl, rfl, rfl, by decide +kernel, rfl, by decide +kernel, by decide +kernel⟩
theorem a_is_residue (W : Wd K mg base) {fd : FuncData} (Fn : Fun K "is_residue" "is_residue" s_is_residue (He.ga K "is_residue") fd) : FnA P w K mg base (TT K) 5 1 (He.ga K "is_residue") fd ["thing"] d_is_residue := by
  have S := sc_is_residue
  obtain ⟨t_PRIME, i_PRIME⟩ := W.i_PRIME
  refine fnA_of0 (N := N_is_residue) (ps := ["thing"]) (k := 0) (fx := fx_is_residue) (body := b_is_residue) Fn S (fun c A outer s H E hK hM hT hfx hr hG => ?_)
  unfold b_is_residue
  exact ss_one (s_ret (t_and (t_isi isTy_int hK W.n_isinstance W.n_int (by decide +kernel) (t_nm 0)) (t_and (t_not (t_isi isTy_bool hK W.n_isinstance W.n_bool (by decide +kernel) (t_nm 0))) (t_one (t_chn o_le o_lt (t_int) (t_nm 0) (t_gint i_PRIME))))))
theorem y_is_residue (W : Wd K mg base) : FnY P w K mg base (TT K) 5 1 (He.ga K "is_residue") d_is_residue := by
  obtain ⟨fd, Fn⟩ := W.F_is_residue
  exact (a_is_residue W Fn).y0 (binds_mk Fn fun _ _ _ _ _ _ us hl => match us, hl with | [_], _ => rfl)
theorem sc_wrong_residues : FnScope N_wrong_residues ["thing", "many"] (defScope s_wrong_residues) := ⟨rfl, rfl, rfl, by decide +kernel, rfl, by decide +kernel, by decide +kernel⟩
theorem a_wrong_residues (W : Wd K mg base) {fd : FuncData} (Fn : Fun K "wrong_residues" "wrong_residues" s_wrong_residues (He.ga K "wrong_residues") fd) : FnA P w K mg base (TT K) 5 2 (He.ga K "wrong_residues") fd ["thing", "many"] d_wrong_residues := by
  have S := sc_wrong_residues
  refine fnA_of0 (N := N_wrong_residues) (ps := ["thing", "many"]) (k := 1) (fx := fx_wrong_residues) (body := b_wrong_residues) Fn S (fun c A outer s H E hK hM hT hfx hr hG => ?_)
  unfold b_wrong_residues B_wrong_residues
  exact ss_cons (s_if (TrW.t (tw_or (tt_not (tt_val (t_isi isTy_tuple hK W.n_isinstance W.n_tuple (by decide +kernel) (t_nm 0)))) (tw_or1 (tt_ne hK hr.units (t_len hK W.n_len (t_nm 0)) (t_nm 1))))) (ss_one (s_ret (t_neg (t_int)))) (ss_nil))
    (ss_cons (s_for (passes_of rfl) rfl (i_enum hK W.n_enumerate (t_vl 0)) (g_tup hK rfl (gs_cons (g_name (i := 2) S.nd rfl (by first | exact Or.inl rfl | exact Or.inr rfl) (congrFun hfx 2)) (gs_cons (g_name (i := 3) S.nd rfl (by first | exact Or.inl rfl | exact Or.inr rfl) (congrFun hfx 3)) (gs_nil)))) (ss_one (s_if (tt_not (tt_val (t_call (FnY.at hT (y_is_residue W)) hK hM (hr.mono (by decide)) (.inl hG) W.g_is_residue (W.k_is_residue) (ta_cons (t_nm 3) (ta_nil))))) (ss_one (s_ret (t_nm 2))) (ss_nil))))
    (ss_one (s_ret (t_non))))
theorem y_wrong_residues (W : Wd K mg base) : FnY P w K mg base (TT K) 5 2 (He.ga K "wrong_residues") d_wrong_residues := by
  obtain ⟨fd, Fn⟩ := W.F_wrong_residues
  exact (a_wrong_residues W Fn).y0 (binds_mk Fn fun _ _ _ _ _ _ us hl => match us, hl with | [_, _], _ => rfl)
theorem sc_made_poly : FnScope N_made_poly ["thing"] (defScope s_made_poly) := ⟨rfl, rfl, rfl, by decide +kernel, rfl, by decide +kernel, by decide +kernel⟩
theorem a_made_poly (W : Wd K mg base) {fd : FuncData} (Fn : Fun K "made_poly" "made_poly" s_made_poly (He.ga K "made_poly") fd) : FnA P w K mg base (TT K) 5 3 (He.ga K "made_poly") fd ["thing"] d_made_poly := by
  have S := sc_made_poly
  obtain ⟨t_MOST_NUMBERS, i_MOST_NUMBERS⟩ := W.i_MOST_NUMBERS
  obtain ⟨fdI, FI⟩ := W.FI
  refine fnA_of0 (N := N_made_poly) (ps := ["thing"]) (k := 2) (fx := fx_made_poly) (body := b_made_poly) Fn S (fun c A outer s H E hK hM hT hfx hr hG => ?_)
  unfold b_made_poly B_made_poly
  exact ss_cons (s_if (TrW.t (tw_or (tt_not (tt_val (t_isi isTy_tuple hK W.n_isinstance W.n_tuple (by decide +kernel) (t_nm 0)))) (tw_or1 (tt_gt (t_len hK W.n_len (t_nm 0)) (t_gint i_MOST_NUMBERS))))) (ss_one (s_raise (W.e_BadPoly).k W.tI (ri_any W.toFx FI) (hr.mono (by decide)) (bindI FI) rfl hM W.g_BadPoly (ta_cons (t_neg (t_int)) (ta_nil)))) (ss_nil))
    (ss_cons (s_set (i := 1) S.nd rfl (by first | exact Or.inl rfl | exact Or.inr rfl) (congrFun hfx 1) (t_call (FnY.at hT (y_wrong_residues W)) hK hM (hr.mono (by decide)) (.inl hG) W.g_wrong_residues (W.k_wrong_residues) (ta_cons (t_nm 0) (ta_cons (t_len hK W.n_len (t_nm 0)) (ta_nil)))))
    (ss_cons (s_if (tt_notN (t_nm 1) (t_non)) (ss_one (s_raise (W.e_BadPoly).k W.tI (ri_any W.toFx FI) (hr.mono (by decide)) (bindI FI) rfl hM W.g_BadPoly (ta_cons (t_vl 1) (ta_nil)))) (ss_nil))
    (ss_one (s_ret (t_nm 0)))))
theorem y_made_poly (W : Wd K mg base) : FnY P w K mg base (TT K) 5 3 (He.ga K "made_poly") d_made_poly := by
  obtain ⟨fd, Fn⟩ := W.F_made_poly
  exact (a_made_poly W Fn).y0 (binds_mk Fn fun _ _ _ _ _ _ us hl => match us, hl with | [_], _ => rfl)
theorem sc_value_at : FnScope N_value_at ["poly", "a"] (defScope s_value_at) := ⟨rfl, rfl, rfl, by decide +kernel, rfl, by decide +kernel, by decide +kernel⟩
theorem a_value_at (W : Wd K mg base) {fd : FuncData} (Fn : Fun K "value_at" "value_at" s_value_at (He.ga K "value_at") fd) : FnA P w K mg base (TT K) 5 1 (He.ga K "value_at") fd ["poly", "a"] d_value_at := by
  have S := sc_value_at
  obtain ⟨t_PRIME, i_PRIME⟩ := W.i_PRIME
  refine fnA_of0 (N := N_value_at) (ps := ["poly", "a"]) (k := 0) (fx := fx_value_at) (body := b_value_at) Fn S (fun c A outer s H E hK hM hT hfx hr hG => ?_)
  unfold b_value_at
  exact ss_cons (s_set (i := 2) S.nd rfl (by first | exact Or.inl rfl | exact Or.inr rfl) (congrFun hfx 2) (t_int))
    (ss_cons (s_for (passes_of rfl) rfl (i_seq hK (t_rev hK (t_nm 0))) (g_name (i := 3) S.nd rfl (by first | exact Or.inl rfl | exact Or.inr rfl) (congrFun hfx 3)) (ss_one (s_set (i := 2) S.nd rfl (by first | exact Or.inl rfl | exact Or.inr rfl) (congrFun hfx 2) (t_mod (t_add hK (t_mul hK (t_nm 2) (t_nm 1)) (t_nm 3)) (t_gint i_PRIME)))))
    (ss_one (s_ret (t_nm 2))))
theorem y_value_at (W : Wd K mg base) : FnY P w K mg base (TT K) 5 1 (He.ga K "value_at") d_value_at := by
  obtain ⟨fd, Fn⟩ := W.F_value_at
  exact (a_value_at W Fn).y0 (binds_mk Fn fun _ _ _ _ _ _ us hl => match us, hl with | [_, _], _ => rfl)
theorem sc_value : FnScope N_value ["poly", "a"] (defScope s_value) := ⟨rfl, rfl, rfl, by decide +kernel, rfl, by decide +kernel, by decide +kernel⟩
theorem a_value (W : Wd K mg base) {fd : FuncData} (Fn : Fun K "value" "value" s_value (He.ga K "value") fd) : FnA P w K mg base (TT K) 5 4 (He.ga K "value") fd ["poly", "a"] d_value := by
  have S := sc_value
  obtain ⟨fdI, FI⟩ := W.FI
  refine fnA_of0 (N := N_value) (ps := ["poly", "a"]) (k := 3) (fx := fx_value) (body := b_value) Fn S (fun c A outer s H E hK hM hT hfx hr hG => ?_)
  unfold b_value B_value
  exact ss_cons (s_expr (t_call (FnY.at hT (y_made_poly W)) hK hM (hr.mono (by decide)) (.inl hG) W.g_made_poly (W.k_made_poly) (ta_cons (t_nm 0) (ta_nil))))
    (ss_cons (s_if (tt_not (tt_val (t_call (FnY.at hT (y_is_residue W)) hK hM (hr.mono (by decide)) (.inl hG) W.g_is_residue (W.k_is_residue) (ta_cons (t_nm 1) (ta_nil))))) (ss_one (s_raise (W.e_BadResidue).k W.tI (ri_any W.toFx FI) (hr.mono (by decide)) (bindI FI) rfl hM W.g_BadResidue (ta_cons (t_vl 1) (ta_nil)))) (ss_nil))
    (ss_one (s_ret (t_call (FnY.at hT (y_value_at W)) hK hM (hr.mono (by decide)) (.inl hG) W.g_value_at (W.k_value_at) (ta_cons (t_nm 0) (ta_cons (t_nm 1) (ta_nil)))))))
theorem y_value (W : Wd K mg base) : FnY P w K mg base (TT K) 5 4 (He.ga K "value") d_value := by
  obtain ⟨fd, Fn⟩ := W.F_value
  exact (a_value W Fn).y0 (binds_mk Fn fun _ _ _ _ _ _ us hl => match us, hl with | [_, _], _ => rfl)
theorem sc_law_c2_forms_right : FnScope N_law_c2_forms_right ["jar", "poly"] (defScope s_law_c2_forms_right) := ⟨rfl, rfl, rfl, by decide +kernel, rfl, by decide +kernel, by decide +kernel⟩
theorem a_law_c2_forms_right (W : Wd K mg base) {fd : FuncData} (Fn : Fun K "_law_c2_forms_right" "_law_c2_forms_right" s_law_c2_forms_right (He.ga K "_law_c2_forms_right") fd) : FnA P w K mg base (TT K) 5 12 (He.ga K "_law_c2_forms_right") fd ["jar", "poly"] d_law_c2_forms_right := by
  have S := sc_law_c2_forms_right
  refine fnA_of0 (N := N_law_c2_forms_right) (ps := ["jar", "poly"]) (k := 11) (fx := fx_law_c2_forms_right) (body := b_law_c2_forms_right) Fn S (fun c A outer s H E hK hM hT hfx hr hG => ?_)
  unfold b_law_c2_forms_right B_law_c2_forms_right
  exact ss_cons (s_set (i := 2) S.nd rfl (by first | exact Or.inl rfl | exact Or.inr rfl) (congrFun hfx 2) (t_lst (ta_cons (t_vl 1) (ta_cons (t_fz (t_list hK W.n_list (t_nm 1))) (ta_cons (t_non) (ta_cons (t_int) (ta_cons (t_str) (ta_cons (t_tup (ta_cons (t_vl 1) (ta_nil))) (ta_cons (t_add hK (t_nm 1) (t_tup (ta_cons (t_int) (ta_nil)))) (ta_cons (t_mul hK (t_nm 1) (t_int)) (ta_cons (t_mul hK (t_tup (ta_cons (t_int) (ta_nil))) (t_int)) (ta_cons (t_mul hK (t_tup (ta_cons (t_int) (ta_nil))) (t_int)) (ta_cons (t_mul hK (t_tup (ta_cons (t_non) (ta_nil))) (t_int)) (ta_nil))))))))))))))
    (ss_cons (s_for (passes_of rfl) rfl (i_seq hK (t_lst (ta_cons (t_int) (ta_cons (t_neg (t_int)) (ta_cons (t_non) (ta_cons (t_bl) (ta_cons (t_str) (ta_cons (t_tup (ta_cons (t_int) (ta_nil))) (ta_cons (t_fz (t_lst (ta_cons (t_int) (ta_nil)))) (ta_cons (t_pow (t_int) (t_int)) (ta_nil))))))))))) (g_name (i := 3) S.nd rfl (by first | exact Or.inl rfl | exact Or.inr rfl) (congrFun hfx 3)) (ss_cons (s_set (i := 4) S.nd rfl (by first | exact Or.inl rfl | exact Or.inr rfl) (congrFun hfx 4) (t_call (FnY.at hT (y_law_take W)) hK hM (hr.mono (by decide)) (.inl hG) W.g_law_take (W.k_law_take) (ta_cons (t_nm 0) (ta_cons (t_add hK (t_len hK W.n_len (t_nm 1)) (t_int)) (ta_nil)))))
    (ss_one (s_expr (t_append (i := 2) rfl (ta_cons (t_add hK (t_add hK (t_slc hK (t_nm 1) (to_none) (to_some (t_nm 4))) (t_tup (ta_cons (t_vl 3) (ta_nil)))) (t_slc hK (t_nm 1) (to_some (t_nm 4)) (to_none))) (ta_nil)))))))
    (ss_cons (s_expr (t_extend (i := 2) rfl (ta_cons (t_lst (ta_cons (t_add hK (t_add hK (t_tup (ta_cons (t_non) (ta_nil))) (t_nm 1)) (t_tup (ta_cons (t_neg (t_int)) (ta_nil)))) (ta_cons (t_call (FnY.at hT (y_law_yv_bent W)) hK hM (hr.mono (by decide)) (.inl hG) W.g_law_yv_bent (W.k_law_yv_bent) (ta_cons (t_nm 0) (ta_cons (t_nm 1) (ta_nil)))) (ta_cons (t_call (FnY.at hT (y_law_yv_bent W)) hK hM (hr.mono (by decide)) (.inl hG) W.g_law_yv_bent (W.k_law_yv_bent) (ta_cons (t_nm 0) (ta_cons (t_call (FnY.at hT (y_law_yv_bent W)) hK hM (hr.mono (by decide)) (.inl hG) W.g_law_yv_bent (W.k_law_yv_bent) (ta_cons (t_nm 0) (ta_cons (t_nm 1) (ta_nil)))) (ta_nil)))) (ta_nil))))) (ta_nil))))
    (ss_cons (s_for (passes_of rfl) rfl (i_seq hK (t_vl 2)) (g_name (i := 5) S.nd rfl (by first | exact Or.inl rfl | exact Or.inr rfl) (congrFun hfx 5)) (ss_cons (s_set (i := 6) S.nd rfl (by first | exact Or.inl rfl | exact Or.inr rfl) (congrFun hfx 6) (t_call (FnY.at hT (y_law_c2_fault W)) hK hM (hr.mono (by decide)) (.inl hG) W.g_law_c2_fault (W.k_law_c2_fault) (ta_cons (t_nm 5) (ta_nil))))
    (ss_cons (s_set (i := 7) S.nd rfl (by first | exact Or.inl rfl | exact Or.inr rfl) (congrFun hfx 7) (t_lam (LB := 4) (FnY.at hT (y_law_c2_heard W)) hK hM (hr.mono (by decide)) W.g_law_c2_heard (W.k_law_c2_heard) (W.tb ("_law_c2_forms_right", none) (by decide)) (code_of Fn) (by rw [hT]; exact qtab_mem (p := ("_law_c2_forms_right", none)) (by decide)) (by rw [hT]; exact qtab_one W.nd (by decide)) (LamX.lamS_by (sc := defScope s_law_c2_forms_right) (by decide +kernel)) rfl (fun _ _ _ _ _ => rfl) (fun cl A outer s H E f c' hK hM hTl hG hr => t_call (FnY.at (hTl.trans hT) (y_made_poly W)) hK hM (hr.mono (by decide)) (.inl hG) W.g_made_poly (W.k_made_poly) (ta_cons (t_nm 5) (ta_nil))) (ta_nil)))
    (ss_cons (s_if (tt_not (tt_val (t_call (FnY.at hT (y_law_yv_same W)) hK hM (hr.mono (by decide)) (.inl hG) W.g_law_yv_same (W.k_law_yv_same) (ta_cons (t_nm 7) (ta_cons (t_if (tt_isN (t_nm 6) (t_non)) (t_tup (ta_cons (t_str) (ta_cons (t_vl 5) (ta_nil)))) (t_tup (ta_cons (t_str) (ta_cons (t_vl 6) (ta_nil))))) (ta_nil)))))) (ss_one (s_ret (t_bl))) (ss_nil))
    (ss_one (s_if (TrW.t (tw_and (tt_notN (t_nm 6) (t_non)) (tw_and1 (tt_not (tt_val (t_call (FnY.at hT (y_law_yv_same W)) hK hM (hr.mono (by decide)) (.inl hG) W.g_law_yv_same (W.k_law_yv_same) (ta_cons (t_lam (LB := 4) (FnY.at hT (y_law_c2_heard W)) hK hM (hr.mono (by decide)) W.g_law_c2_heard (W.k_law_c2_heard) (W.tb ("_law_c2_forms_right", none) (by decide)) (code_of Fn) (by rw [hT]; exact qtab_mem (p := ("_law_c2_forms_right", none)) (by decide)) (by rw [hT]; exact qtab_one W.nd (by decide)) (LamX.lamS_by (sc := defScope s_law_c2_forms_right) (by decide +kernel)) rfl (fun _ _ _ _ _ => rfl) (fun cl A outer s H E f c' hK hM hTl hG hr => t_call (FnY.at (hTl.trans hT) (y_value W)) hK hM (hr.mono (by decide)) (.inl hG) W.g_value (W.k_value) (ta_cons (t_nm 5) (ta_cons (t_non) (ta_nil)))) (ta_nil)) (ta_cons (t_tup (ta_cons (t_str) (ta_cons (t_vl 6) (ta_nil)))) (ta_nil))))))))) (ss_one (s_ret (t_bl))) (ss_nil)))))))
    (ss_one (s_ret (t_bl))))))
theorem y_law_c2_forms_right (W : Wd K mg base) : FnY P w K mg base (TT K) 5 12 (He.ga K "_law_c2_forms_right") d_law_c2_forms_right := by
  obtain ⟨fd, Fn⟩ := W.F_law_c2_forms_right
  exact (a_law_c2_forms_right W Fn).y0 (binds_mk Fn fun _ _ _ _ _ _ us hl => match us, hl with | [_, _], _ => rfl)
theorem sc_power : FnScope N_power ["a", "e"] (defScope s_power) := ⟨rfl, rfl, rfl, by decide +kernel, rfl, by decide +kernel, by decide +kernel⟩
theorem a_power (W : Wd K mg base) {fd : FuncData} (Fn : Fun K "power" "power" s_power (He.ga K "power") fd) : FnA P w K mg base (TT K) 5 1 (He.ga K "power") fd ["a", "e"] d_power := by
  have S := sc_power
  obtain ⟨t_PRIME, i_PRIME⟩ := W.i_PRIME
  refine fnA_of0 (N := N_power) (ps := ["a", "e"]) (k := 0) (fx := fx_power) (body := b_power) Fn S (fun c A outer s H E hK hM hT hfx hr hG => ?_)
  unfold b_power
  exact ss_cons (s_set (i := 2) S.nd rfl (by first | exact Or.inl rfl | exact Or.inr rfl) (congrFun hfx 2) (t_int))
    (ss_cons (s_while (n := 1000) (passes_of rfl) (tt_gt (t_nm 1) (t_int)) (ss_cons (s_set (i := 2) S.nd rfl (by first | exact Or.inl rfl | exact Or.inr rfl) (congrFun hfx 2) (t_if (tt_eq hK hr.units (t_mod (t_nm 1) (t_int)) (t_int)) (t_mod (t_mul hK (t_nm 2) (t_nm 0)) (t_gint i_PRIME)) (t_vl 2)))
    (ss_one (s_par (i := 0) (j := 1) rfl S.nd rfl rfl (by decide) (congrFun hfx 0) (congrFun hfx 1) rfl rfl (ta_cons (t_mod (t_mul hK (t_nm 0) (t_nm 0)) (t_gint i_PRIME)) (ta_cons (t_fdiv (t_nm 1) (t_int)) (ta_nil)))))))
    (ss_one (s_ret (t_nm 2))))
theorem y_power (W : Wd K mg base) : FnY P w K mg base (TT K) 5 1 (He.ga K "power") d_power := by
  obtain ⟨fd, Fn⟩ := W.F_power
  exact (a_power W Fn).y0 (binds_mk Fn fun _ _ _ _ _ _ us hl => match us, hl with | [_, _], _ => rfl)
theorem sc_inverse_of : FnScope N_inverse_of ["a"] (defScope s_inverse_of) := ⟨rfl, rfl, rfl, by decide +kernel, rfl, by decide +kernel, by decide +kernel⟩
theorem a_inverse_of (W : Wd K mg base) {fd : FuncData} (Fn : Fun K "inverse_of" "inverse_of" s_inverse_of (He.ga K "inverse_of") fd) : FnA P w K mg base (TT K) 5 2 (He.ga K "inverse_of") fd ["a"] d_inverse_of := by
  have S := sc_inverse_of
  obtain ⟨t_PRIME, i_PRIME⟩ := W.i_PRIME
  refine fnA_of0 (N := N_inverse_of) (ps := ["a"]) (k := 1) (fx := fx_inverse_of) (body := b_inverse_of) Fn S (fun c A outer s H E hK hM hT hfx hr hG => ?_)
  unfold b_inverse_of B_inverse_of
  exact ss_one (s_ret (t_call (FnY.at hT (y_power W)) hK hM (hr.mono (by decide)) (.inl hG) W.g_power (W.k_power) (ta_cons (t_nm 0) (ta_cons (t_sub (t_gint i_PRIME) (t_int)) (ta_nil)))))
theorem y_inverse_of (W : Wd K mg base) : FnY P w K mg base (TT K) 5 2 (He.ga K "inverse_of") d_inverse_of := by
  obtain ⟨fd, Fn⟩ := W.F_inverse_of
  exact (a_inverse_of W Fn).y0 (binds_mk Fn fun _ _ _ _ _ _ us hl => match us, hl with | [_], _ => rfl)
theorem sc_trimmed : FnScope N_trimmed ["poly"] (defScope s_trimmed) := ⟨rfl, rfl, rfl, by decide +kernel, rfl, by decide +kernel, by decide +kernel⟩
theorem a_trimmed (W : Wd K mg base) {fd : FuncData} (Fn : Fun K "trimmed" "trimmed" s_trimmed (He.ga K "trimmed") fd) : FnA P w K mg base (TT K) 5 1 (He.ga K "trimmed") fd ["poly"] d_trimmed := by
  have S := sc_trimmed
  refine fnA_of0 (N := N_trimmed) (ps := ["poly"]) (k := 0) (fx := fx_trimmed) (body := b_trimmed) Fn S (fun c A outer s H E hK hM hT hfx hr hG => ?_)
  unfold b_trimmed
  exact ss_cons (s_set (i := 1) S.nd rfl (by first | exact Or.inl rfl | exact Or.inr rfl) (congrFun hfx 1) (t_len hK W.n_len (t_nm 0)))
    (ss_cons (s_while (n := 1000) (passes_of rfl) (TrW.t (tw_and (tt_gt (t_nm 1) (t_int)) (tw_and1 (tt_eq hK hr.units (t_ixA hK (hu_of hr) (t_nm 0) (t_sub (t_nm 1) (t_int))) (t_int))))) (ss_one (s_set (i := 1) S.nd rfl (by first | exact Or.inl rfl | exact Or.inr rfl) (congrFun hfx 1) (t_sub (t_nm 1) (t_int)))))
    (ss_one (s_ret (t_list hK W.n_list (t_slc hK (t_nm 0) (to_none) (to_some (t_nm 1)))))))
theorem y_trimmed (W : Wd K mg base) : FnY P w K mg base (TT K) 5 1 (He.ga K "trimmed") d_trimmed := by
  obtain ⟨fd, Fn⟩ := W.F_trimmed
  exact (a_trimmed W Fn).y0 (binds_mk Fn fun _ _ _ _ _ _ us hl => match us, hl with | [_], _ => rfl)
theorem sc_quotient_of : FnScope N_quotient_of ["one", "two"] (defScope s_quotient_of) := ⟨rfl, rfl, rfl, by decide +kernel, rfl, by decide +kernel, by decide +kernel⟩
theorem a_quotient_of (W : Wd K mg base) {fd : FuncData} (Fn : Fun K "quotient_of" "quotient_of" s_quotient_of (He.ga K "quotient_of") fd) : FnA P w K mg base (TT K) 5 3 (He.ga K "quotient_of") fd ["one", "two"] d_quotient_of := by
  have S := sc_quotient_of
  obtain ⟨t_PRIME, i_PRIME⟩ := W.i_PRIME
  refine fnA_of0 (N := N_quotient_of) (ps := ["one", "two"]) (k := 2) (fx := fx_quotient_of) (body := b_quotient_of) Fn S (fun c A outer s H E hK hM hT hfx hr hG => ?_)
  unfold b_quotient_of B_quotient_of
  exact ss_cons (s_par (i := 2) (j := 3) rfl S.nd rfl rfl (by decide) (congrFun hfx 2) (congrFun hfx 3) rfl rfl (ta_cons (t_call (FnY.at hT (y_trimmed W)) hK hM (hr.mono (by decide)) (.inl hG) W.g_trimmed (W.k_trimmed) (ta_cons (t_nm 0) (ta_nil))) (ta_cons (t_call (FnY.at hT (y_trimmed W)) hK hM (hr.mono (by decide)) (.inl hG) W.g_trimmed (W.k_trimmed) (ta_cons (t_nm 1) (ta_nil))) (ta_nil))))
    (ss_cons (s_par (i := 4) (j := 5) rfl S.nd rfl rfl (by decide) (congrFun hfx 4) (congrFun hfx 5) rfl rfl (ta_cons (t_call (FnY.at hT (y_inverse_of W)) hK hM (hr.mono (by decide)) (.inl hG) W.g_inverse_of (W.k_inverse_of) (ta_cons (t_ixA hK (hu_of hr) (t_nm 3) (t_neg (t_int))) (ta_nil))) (ta_cons (t_mul hK (t_lst (ta_cons (t_int) (ta_nil))) (t_max2 rfl W.n_max (t_int) (t_add hK (t_sub (t_len hK W.n_len (t_nm 2)) (t_len hK W.n_len (t_nm 3))) (t_int)))) (ta_nil))))
    (ss_cons (s_for (passes_of rfl) rfl (i_range3 W.n_range (t_sub (t_len hK W.n_len (t_nm 5)) (t_int)) (t_neg (t_int)) (pe_un un_neg pe_int)) (g_name (i := 6) S.nd rfl (by first | exact Or.inl rfl | exact Or.inr rfl) (congrFun hfx 6)) (ss_cons (s_set (i := 7) S.nd rfl (by first | exact Or.inl rfl | exact Or.inr rfl) (congrFun hfx 7) (t_mod (t_mul hK (t_ixA hK (hu_of hr) (t_nm 2) (t_sub (t_add hK (t_nm 6) (t_len hK W.n_len (t_nm 3))) (t_int))) (t_nm 4)) (t_gint i_PRIME)))
    (ss_cons (s_sto (i := 5) rfl (t_vl 7) (t_nm 6))
    (ss_one (s_for (passes_of rfl) rfl (i_enum hK W.n_enumerate (t_vl 3)) (g_tup hK rfl (gs_cons (g_name (i := 8) S.nd rfl (by first | exact Or.inl rfl | exact Or.inr rfl) (congrFun hfx 8)) (gs_cons (g_name (i := 9) S.nd rfl (by first | exact Or.inl rfl | exact Or.inr rfl) (congrFun hfx 9)) (gs_nil)))) (ss_one (s_sto (i := 2) rfl (t_mod (t_sub (t_ixA hK (hu_of hr) (t_nm 2) (t_add hK (t_nm 6) (t_nm 8))) (t_mul hK (t_nm 7) (t_nm 9))) (t_gint i_PRIME)) (t_add hK (t_nm 6) (t_nm 8)))))))))
    (ss_one (s_ret (t_if (tt_eq hK hr.units (t_call (FnY.at hT (y_trimmed W)) hK hM (hr.mono (by decide)) (.inl hG) W.g_trimmed (W.k_trimmed) (ta_cons (t_vl 2) (ta_nil))) (t_lst (ta_nil))) (t_nm 5) (t_non))))))
theorem y_quotient_of (W : Wd K mg base) : FnY P w K mg base (TT K) 5 3 (He.ga K "quotient_of") d_quotient_of := by
  obtain ⟨fd, Fn⟩ := W.F_quotient_of
  exact (a_quotient_of W Fn).y0 (binds_mk Fn fun _ _ _ _ _ _ us hl => match us, hl with | [_, _], _ => rfl)
theorem sc_quotient : FnScope N_quotient ["one", "two"] (defScope s_quotient) := ⟨rfl, rfl, rfl, by decide +kernel, rfl, by decide +kernel, by decide +kernel⟩
theorem a_quotient (W : Wd K mg base) {fd : FuncData} (Fn : Fun K "quotient" "quotient" s_quotient (He.ga K "quotient") fd) : FnA P w K mg base (TT K) 5 4 (He.ga K "quotient") fd ["one", "two"] d_quotient := by
  have S := sc_quotient
  obtain ⟨fdI, FI⟩ := W.FI
  refine fnA_of0 (N := N_quotient) (ps := ["one", "two"]) (k := 3) (fx := fx_quotient) (body := b_quotient) Fn S (fun c A outer s H E hK hM hT hfx hr hG => ?_)
  unfold b_quotient B_quotient
  exact ss_cons (s_expr (t_call (FnY.at hT (y_made_poly W)) hK hM (hr.mono (by decide)) (.inl hG) W.g_made_poly (W.k_made_poly) (ta_cons (t_nm 0) (ta_nil))))
    (ss_cons (s_if (tt_eq hK hr.units (t_call (FnY.at hT (y_trimmed W)) hK hM (hr.mono (by decide)) (.inl hG) W.g_trimmed (W.k_trimmed) (ta_cons (t_call (FnY.at hT (y_made_poly W)) hK hM (hr.mono (by decide)) (.inl hG) W.g_made_poly (W.k_made_poly) (ta_cons (t_nm 1) (ta_nil))) (ta_nil))) (t_lst (ta_nil))) (ss_one (s_raise (W.e_Zero).k W.tI (ri_any W.toFx FI) (hr.mono (by decide)) (bindI FI) rfl hM W.g_Zero (ta_cons (t_vl 1) (ta_nil)))) (ss_nil))
    (ss_cons (s_set (i := 2) S.nd rfl (by first | exact Or.inl rfl | exact Or.inr rfl) (congrFun hfx 2) (t_call (FnY.at hT (y_quotient_of W)) hK hM (hr.mono (by decide)) (.inl hG) W.g_quotient_of (W.k_quotient_of) (ta_cons (t_nm 0) (ta_cons (t_nm 1) (ta_nil)))))
    (ss_one (s_ret (t_if (tt_isN (t_nm 2) (t_non)) (t_non) (t_tuple hK W.n_tuple (t_nm 2)))))))
theorem y_quotient (W : Wd K mg base) : FnY P w K mg base (TT K) 5 4 (He.ga K "quotient") d_quotient := by
  obtain ⟨fd, Fn⟩ := W.F_quotient
  exact (a_quotient W Fn).y0 (binds_mk Fn fun _ _ _ _ _ _ us hl => match us, hl with | [_, _], _ => rfl)
theorem sc_product_of : FnScope N_product_of ["one", "two"] (defScope s_product_of) := ⟨rfl, rfl, rfl, by decide +kernel, rfl, by decide +kernel, by decide +kernel⟩
theorem a_product_of (W : Wd K mg base) {fd : FuncData} (Fn : Fun K "product_of" "product_of" s_product_of (He.ga K "product_of") fd) : FnA P w K mg base (TT K) 5 1 (He.ga K "product_of") fd ["one", "two"] d_product_of := by
  have S := sc_product_of
  obtain ⟨t_PRIME, i_PRIME⟩ := W.i_PRIME
  refine fnA_of0 (N := N_product_of) (ps := ["one", "two"]) (k := 0) (fx := fx_product_of) (body := b_product_of) Fn S (fun c A outer s H E hK hM hT hfx hr hG => ?_)
  unfold b_product_of
  exact ss_cons (s_if (TrW.t (tw_or (tt_eq hK hr.units (t_len hK W.n_len (t_nm 0)) (t_int)) (tw_or1 (tt_eq hK hr.units (t_len hK W.n_len (t_nm 1)) (t_int))))) (ss_one (s_ret (t_lst (ta_nil)))) (ss_nil))
    (ss_cons (s_set (i := 2) S.nd rfl (by first | exact Or.inl rfl | exact Or.inr rfl) (congrFun hfx 2) (t_mul hK (t_lst (ta_cons (t_int) (ta_nil))) (t_sub (t_add hK (t_len hK W.n_len (t_nm 0)) (t_len hK W.n_len (t_nm 1))) (t_int))))
    (ss_cons (s_for (passes_of rfl) rfl (i_enum hK W.n_enumerate (t_vl 0)) (g_tup hK rfl (gs_cons (g_name (i := 3) S.nd rfl (by first | exact Or.inl rfl | exact Or.inr rfl) (congrFun hfx 3)) (gs_cons (g_name (i := 4) S.nd rfl (by first | exact Or.inl rfl | exact Or.inr rfl) (congrFun hfx 4)) (gs_nil)))) (ss_one (s_if (tt_ne hK hr.units (t_nm 4) (t_int)) (ss_one (s_for (passes_of rfl) rfl (i_enum hK W.n_enumerate (t_vl 1)) (g_tup hK rfl (gs_cons (g_name (i := 5) S.nd rfl (by first | exact Or.inl rfl | exact Or.inr rfl) (congrFun hfx 5)) (gs_cons (g_name (i := 6) S.nd rfl (by first | exact Or.inl rfl | exact Or.inr rfl) (congrFun hfx 6)) (gs_nil)))) (ss_one (s_sto (i := 2) rfl (t_mod (t_add hK (t_ixA hK (hu_of hr) (t_nm 2) (t_add hK (t_nm 3) (t_nm 5))) (t_mul hK (t_nm 4) (t_nm 6))) (t_gint i_PRIME)) (t_add hK (t_nm 3) (t_nm 5)))))) (ss_nil))))
    (ss_one (s_ret (t_nm 2)))))
theorem y_product_of (W : Wd K mg base) : FnY P w K mg base (TT K) 5 1 (He.ga K "product_of") d_product_of := by
  obtain ⟨fd, Fn⟩ := W.F_product_of
  exact (a_product_of W Fn).y0 (binds_mk Fn fun _ _ _ _ _ _ us hl => match us, hl with | [_, _], _ => rfl)
theorem sc_times : FnScope N_times ["one", "two"] (defScope s_times) := ⟨rfl, rfl, rfl, by decide +kernel, rfl, by decide +kernel, by decide +kernel⟩
theorem a_times (W : Wd K mg base) {fd : FuncData} (Fn : Fun K "times" "times" s_times (He.ga K "times") fd) : FnA P w K mg base (TT K) 5 4 (He.ga K "times") fd ["one", "two"] d_times := by
  have S := sc_times
  refine fnA_of0 (N := N_times) (ps := ["one", "two"]) (k := 3) (fx := fx_times) (body := b_times) Fn S (fun c A outer s H E hK hM hT hfx hr hG => ?_)
  unfold b_times B_times
  exact ss_cons (s_expr (t_call (FnY.at hT (y_made_poly W)) hK hM (hr.mono (by decide)) (.inl hG) W.g_made_poly (W.k_made_poly) (ta_cons (t_nm 0) (ta_nil))))
    (ss_one (s_ret (t_tuple hK W.n_tuple (t_call (FnY.at hT (y_product_of W)) hK hM (hr.mono (by decide)) (.inl hG) W.g_product_of (W.k_product_of) (ta_cons (t_nm 0) (ta_cons (t_call (FnY.at hT (y_made_poly W)) hK hM (hr.mono (by decide)) (.inl hG) W.g_made_poly (W.k_made_poly) (ta_cons (t_nm 1) (ta_nil))) (ta_nil)))))))
theorem y_times (W : Wd K mg base) : FnY P w K mg base (TT K) 5 4 (He.ga K "times") d_times := by
  obtain ⟨fd, Fn⟩ := W.F_times
  exact (a_times W Fn).y0 (binds_mk Fn fun _ _ _ _ _ _ us hl => match us, hl with | [_, _], _ => rfl)
theorem sc_law_c2_hand_right : FnScope N_law_c2_hand_right [] (defScope s_law_c2_hand_right) := ⟨rfl, rfl, rfl, by decide +kernel, rfl, by decide +kernel, by decide +kernel⟩
theorem a_law_c2_hand_right (W : Wd K mg base) {fd : FuncData} (Fn : Fun K "_law_c2_hand_right" "_law_c2_hand_right" s_law_c2_hand_right (He.ga K "_law_c2_hand_right") fd) : FnA P w K mg base (TT K) 5 7 (He.ga K "_law_c2_hand_right") fd [] d_law_c2_hand_right := by
  have S := sc_law_c2_hand_right
  refine fnA_of0 (N := N_law_c2_hand_right) (ps := []) (k := 6) (fx := fx_law_c2_hand_right) (body := b_law_c2_hand_right) Fn S (fun c A outer s H E hK hM hT hfx hr hG => ?_)
  unfold b_law_c2_hand_right B_law_c2_hand_right
  exact ss_cons (s_set (i := 0) S.nd rfl (by first | exact Or.inl rfl | exact Or.inr rfl) (congrFun hfx 0) (t_lst (ta_cons (t_lam (LB := 4) (FnY.at hT (y_law_c2_heard W)) hK hM (hr.mono (by decide)) W.g_law_c2_heard (W.k_law_c2_heard) (W.tb ("_law_c2_hand_right", none) (by decide)) (code_of Fn) (by rw [hT]; exact qtab_mem (p := ("_law_c2_hand_right", none)) (by decide)) (by rw [hT]; exact qtab_one W.nd (by decide)) (LamX.lamS_by (sc := defScope s_law_c2_hand_right) (by decide +kernel)) rfl (fun _ _ _ _ _ => rfl) (fun cl A outer s H E f c' hK hM hTl hG hr => t_call (FnY.at (hTl.trans hT) (y_times W)) hK hM (hr.mono (by decide)) (.inl hG) W.g_times (W.k_times) (ta_cons (t_tup (ta_cons (t_int) (ta_cons (t_int) (ta_nil)))) (ta_cons (t_tup (ta_cons (t_int) (ta_cons (t_int) (ta_nil)))) (ta_nil)))) (ta_nil)) (ta_nil))))
    (ss_cons (s_expr (t_append (i := 0) rfl (ta_cons (t_lam (LB := 4) (FnY.at hT (y_law_c2_heard W)) hK hM (hr.mono (by decide)) W.g_law_c2_heard (W.k_law_c2_heard) (W.tb ("_law_c2_hand_right", none) (by decide)) (code_of Fn) (by rw [hT]; exact qtab_mem (p := ("_law_c2_hand_right", none)) (by decide)) (by rw [hT]; exact qtab_one W.nd (by decide)) (LamX.lamS_by (sc := defScope s_law_c2_hand_right) (by decide +kernel)) rfl (fun _ _ _ _ _ => rfl) (fun cl A outer s H E f c' hK hM hTl hG hr => t_call (FnY.at (hTl.trans hT) (y_quotient W)) hK hM (hr.mono (by decide)) (.inl hG) W.g_quotient (W.k_quotient) (ta_cons (t_tup (ta_cons (t_int) (ta_cons (t_int) (ta_cons (t_int) (ta_cons (t_int) (ta_nil)))))) (ta_cons (t_tup (ta_cons (t_int) (ta_cons (t_int) (ta_cons (t_int) (ta_nil))))) (ta_nil)))) (ta_nil)) (ta_nil))))
    (ss_cons (s_expr (t_append (i := 0) rfl (ta_cons (t_lam (LB := 4) (FnY.at hT (y_law_c2_heard W)) hK hM (hr.mono (by decide)) W.g_law_c2_heard (W.k_law_c2_heard) (W.tb ("_law_c2_hand_right", none) (by decide)) (code_of Fn) (by rw [hT]; exact qtab_mem (p := ("_law_c2_hand_right", none)) (by decide)) (by rw [hT]; exact qtab_one W.nd (by decide)) (LamX.lamS_by (sc := defScope s_law_c2_hand_right) (by decide +kernel)) rfl (fun _ _ _ _ _ => rfl) (fun cl A outer s H E f c' hK hM hTl hG hr => t_call (FnY.at (hTl.trans hT) (y_quotient W)) hK hM (hr.mono (by decide)) (.inl hG) W.g_quotient (W.k_quotient) (ta_cons (t_tup (ta_cons (t_int) (ta_cons (t_int) (ta_cons (t_int) (ta_nil))))) (ta_cons (t_tup (ta_cons (t_int) (ta_cons (t_int) (ta_nil)))) (ta_nil)))) (ta_nil)) (ta_nil))))
    (ss_cons (s_expr (t_append (i := 0) rfl (ta_cons (t_lam (LB := 4) (FnY.at hT (y_law_c2_heard W)) hK hM (hr.mono (by decide)) W.g_law_c2_heard (W.k_law_c2_heard) (W.tb ("_law_c2_hand_right", none) (by decide)) (code_of Fn) (by rw [hT]; exact qtab_mem (p := ("_law_c2_hand_right", none)) (by decide)) (by rw [hT]; exact qtab_one W.nd (by decide)) (LamX.lamS_by (sc := defScope s_law_c2_hand_right) (by decide +kernel)) rfl (fun _ _ _ _ _ => rfl) (fun cl A outer s H E f c' hK hM hTl hG hr => t_call (FnY.at (hTl.trans hT) (y_quotient W)) hK hM (hr.mono (by decide)) (.inl hG) W.g_quotient (W.k_quotient) (ta_cons (t_tup (ta_cons (t_int) (ta_nil))) (ta_cons (t_tup (ta_cons (t_int) (ta_nil))) (ta_nil)))) (ta_nil)) (ta_nil))))
    (ss_cons (s_expr (t_append (i := 0) rfl (ta_cons (t_lam (LB := 4) (FnY.at hT (y_law_c2_heard W)) hK hM (hr.mono (by decide)) W.g_law_c2_heard (W.k_law_c2_heard) (W.tb ("_law_c2_hand_right", none) (by decide)) (code_of Fn) (by rw [hT]; exact qtab_mem (p := ("_law_c2_hand_right", none)) (by decide)) (by rw [hT]; exact qtab_one W.nd (by decide)) (LamX.lamS_by (sc := defScope s_law_c2_hand_right) (by decide +kernel)) rfl (fun _ _ _ _ _ => rfl) (fun cl A outer s H E f c' hK hM hTl hG hr => t_call (FnY.at (hTl.trans hT) (y_quotient W)) hK hM (hr.mono (by decide)) (.inl hG) W.g_quotient (W.k_quotient) (ta_cons (t_tup (ta_nil)) (ta_cons (t_tup (ta_cons (t_int) (ta_nil))) (ta_nil)))) (ta_nil)) (ta_nil))))
    (ss_cons (s_expr (t_append (i := 0) rfl (ta_cons (t_lam (LB := 4) (FnY.at hT (y_law_c2_heard W)) hK hM (hr.mono (by decide)) W.g_law_c2_heard (W.k_law_c2_heard) (W.tb ("_law_c2_hand_right", none) (by decide)) (code_of Fn) (by rw [hT]; exact qtab_mem (p := ("_law_c2_hand_right", none)) (by decide)) (by rw [hT]; exact qtab_one W.nd (by decide)) (LamX.lamS_by (sc := defScope s_law_c2_hand_right) (by decide +kernel)) rfl (fun _ _ _ _ _ => rfl) (fun cl A outer s H E f c' hK hM hTl hG hr => t_call (FnY.at (hTl.trans hT) (y_quotient W)) hK hM (hr.mono (by decide)) (.inl hG) W.g_quotient (W.k_quotient) (ta_cons (t_tup (ta_cons (t_int) (ta_nil))) (ta_cons (t_tup (ta_cons (t_int) (ta_cons (t_int) (ta_nil)))) (ta_nil)))) (ta_nil)) (ta_nil))))
    (ss_cons (s_expr (t_append (i := 0) rfl (ta_cons (t_lam (LB := 4) (FnY.at hT (y_law_c2_heard W)) hK hM (hr.mono (by decide)) W.g_law_c2_heard (W.k_law_c2_heard) (W.tb ("_law_c2_hand_right", none) (by decide)) (code_of Fn) (by rw [hT]; exact qtab_mem (p := ("_law_c2_hand_right", none)) (by decide)) (by rw [hT]; exact qtab_one W.nd (by decide)) (LamX.lamS_by (sc := defScope s_law_c2_hand_right) (by decide +kernel)) rfl (fun _ _ _ _ _ => rfl) (fun cl A outer s H E f c' hK hM hTl hG hr => t_call (FnY.at (hTl.trans hT) (y_times W)) hK hM (hr.mono (by decide)) (.inl hG) W.g_times (W.k_times) (ta_cons (t_add hK (t_tup (ta_cons (t_int) (ta_nil))) (t_mul hK (t_tup (ta_cons (t_int) (ta_nil))) (t_int))) (ta_cons (t_add hK (t_mul hK (t_tup (ta_cons (t_int) (ta_nil))) (t_int)) (t_tup (ta_cons (t_int) (ta_nil)))) (ta_nil)))) (ta_nil)) (ta_nil))))
    (ss_cons (s_expr (t_append (i := 0) rfl (ta_cons (t_lam (LB := 4) (FnY.at hT (y_law_c2_heard W)) hK hM (hr.mono (by decide)) W.g_law_c2_heard (W.k_law_c2_heard) (W.tb ("_law_c2_hand_right", none) (by decide)) (code_of Fn) (by rw [hT]; exact qtab_mem (p := ("_law_c2_hand_right", none)) (by decide)) (by rw [hT]; exact qtab_one W.nd (by decide)) (LamX.lamS_by (sc := defScope s_law_c2_hand_right) (by decide +kernel)) rfl (fun _ _ _ _ _ => rfl) (fun cl A outer s H E f c' hK hM hTl hG hr => t_call (FnY.at (hTl.trans hT) (y_value W)) hK hM (hr.mono (by decide)) (.inl hG) W.g_value (W.k_value) (ta_cons (t_tup (ta_nil)) (ta_cons (t_int) (ta_nil)))) (ta_nil)) (ta_nil))))
    (ss_cons (s_expr (t_append (i := 0) rfl (ta_cons (t_lam (LB := 4) (FnY.at hT (y_law_c2_heard W)) hK hM (hr.mono (by decide)) W.g_law_c2_heard (W.k_law_c2_heard) (W.tb ("_law_c2_hand_right", none) (by decide)) (code_of Fn) (by rw [hT]; exact qtab_mem (p := ("_law_c2_hand_right", none)) (by decide)) (by rw [hT]; exact qtab_one W.nd (by decide)) (LamX.lamS_by (sc := defScope s_law_c2_hand_right) (by decide +kernel)) rfl (fun _ _ _ _ _ => rfl) (fun cl A outer s H E f c' hK hM hTl hG hr => t_call (FnY.at (hTl.trans hT) (y_value W)) hK hM (hr.mono (by decide)) (.inl hG) W.g_value (W.k_value) (ta_cons (t_tup (ta_cons (t_int) (ta_cons (t_int) (ta_nil)))) (ta_cons (t_int) (ta_nil)))) (ta_nil)) (ta_nil))))
    (ss_cons (s_set (i := 1) S.nd rfl (by first | exact Or.inl rfl | exact Or.inr rfl) (congrFun hfx 1) (t_fz (t_lst (ta_cons (t_tup (ta_cons (t_int) (ta_cons (t_int) (ta_cons (t_int) (ta_nil))))) (ta_cons (t_tup (ta_cons (t_int) (ta_cons (t_int) (ta_nil)))) (ta_cons (t_non) (ta_cons (t_tup (ta_cons (t_int) (ta_nil))) (ta_cons (t_tup (ta_nil)) (ta_cons (t_non) (ta_cons (t_add hK (t_add hK (t_mul hK (t_tup (ta_cons (t_int) (ta_nil))) (t_int)) (t_tup (ta_cons (t_int) (ta_nil)))) (t_mul hK (t_tup (ta_cons (t_int) (ta_nil))) (t_int))) (ta_cons (t_int) (ta_cons (t_int) (ta_nil)))))))))))))
    (ss_one (s_ret (t_call (FnY.at hT (y_law_yv_same W)) hK hM (hr.mono (by decide)) (.inl hG) W.g_law_yv_same (W.k_law_yv_same) (ta_cons (t_tuple hK W.n_tuple (t_nm 0)) (ta_cons (t_fz (t_tuple hK W.n_tuple (t_lc (own := [("one", 2)]) rfl S.nd (own_fx hfx (by decide)) (by decide) (i_seq hK (t_vl 1)) (blkOk_by (own := [("one", 2)]) (N := N_law_c2_hand_right) (sc := (defScope s_law_c2_hand_right)) (by decide +kernel)) (fun _ _ _ _ _ => g_name (i := 2) S.nd rfl (by first | exact Or.inl rfl | exact Or.inr rfl) (congrFun hfx 2)) (fun _ _ _ _ _ => tts_nil) (fun _ _ _ _ _ => t_tup (ta_cons (t_str) (ta_cons (t_vl 2) (ta_nil))))))) (ta_nil)))))))))))))))
theorem y_law_c2_hand_right (W : Wd K mg base) : FnY P w K mg base (TT K) 5 7 (He.ga K "_law_c2_hand_right") d_law_c2_hand_right := by
  obtain ⟨fd, Fn⟩ := W.F_law_c2_hand_right
  exact (a_law_c2_hand_right W Fn).y0 (binds_mk Fn fun _ _ _ _ _ _ us hl => match us, hl with | [], _ => rfl)
theorem sc_law_yv_residue : FnScope N_law_yv_residue ["jar"] (defScope s_law_yv_residue) := ⟨rfl, rfl, rfl, by decide +kernel, rfl, by decide +kernel, by decide +kernel⟩
theorem a_law_yv_residue (W : Wd K mg base) {fd : FuncData} (Fn : Fun K "_law_yv_residue" "_law_yv_residue" s_law_yv_residue (He.ga K "_law_yv_residue") fd) : FnA P w K mg base (TT K) 5 3 (He.ga K "_law_yv_residue") fd ["jar"] d_law_yv_residue := by
  have S := sc_law_yv_residue
  refine fnA_of0 (N := N_law_yv_residue) (ps := ["jar"]) (k := 2) (fx := fx_law_yv_residue) (body := b_law_yv_residue) Fn S (fun c A outer s H E hK hM hT hfx hr hG => ?_)
  unfold b_law_yv_residue B_law_yv_residue
  exact ss_cons (s_set (i := 1) S.nd rfl (by first | exact Or.inl rfl | exact Or.inr rfl) (congrFun hfx 1) (t_call (FnY.at hT (y_law_take W)) hK hM (hr.mono (by decide)) (.inl hG) W.g_law_take (W.k_law_take) (ta_cons (t_nm 0) (ta_cons (t_int) (ta_nil)))))
    (ss_cons (s_set (i := 2) S.nd rfl (by first | exact Or.inl rfl | exact Or.inr rfl) (congrFun hfx 2) (t_fz (t_lst (ta_cons (t_int) (ta_cons (t_int) (ta_cons (t_int) (ta_cons (t_int) (ta_cons (t_int) (ta_cons (t_int) (ta_cons (t_int) (ta_cons (t_int) (ta_cons (t_int) (ta_cons (t_vl 1) (ta_cons (t_sub (t_int) (t_nm 1)) (ta_nil)))))))))))))))
    (ss_one (s_ret (t_call (FnY.at hT (y_law_one W)) hK hM (hr.mono (by decide)) (.inl hG) W.g_law_one (W.k_law_one) (ta_cons (t_nm 0) (ta_cons (t_fz (t_add hK (t_nm 2) (t_fz (t_mul hK (t_lst (ta_cons (t_mod (t_int1 W.n_int (t_add hK (t_mul hK (t_nm 1) (t_int)) (t_call (FnY.at hT (y_law_take W)) hK hM (hr.mono (by decide)) (.inl hG) W.g_law_take (W.k_law_take) (ta_cons (t_nm 0) (ta_cons (t_int) (ta_nil)))))) (t_int)) (ta_nil))) (t_int))))) (ta_nil)))))))
theorem y_law_yv_residue (W : Wd K mg base) : FnY P w K mg base (TT K) 5 3 (He.ga K "_law_yv_residue") d_law_yv_residue := by
  obtain ⟨fd, Fn⟩ := W.F_law_yv_residue
  exact (a_law_yv_residue W Fn).y0 (binds_mk Fn fun _ _ _ _ _ _ us hl => match us, hl with | [_], _ => rfl)
theorem sc_law_c2_poly : FnScope N_law_c2_poly ["jar", "most_now"] (defScope s_law_c2_poly) := ⟨rfl, rfl, rfl, by decide +kernel, rfl, by decide +kernel, by decide +kernel⟩
theorem a_law_c2_poly (W : Wd K mg base) {fd : FuncData} (Fn : Fun K "_law_c2_poly" "_law_c2_poly" s_law_c2_poly (He.ga K "_law_c2_poly") fd) : FnA P w K mg base (TT K) 5 4 (He.ga K "_law_c2_poly") fd ["jar", "most_now"] d_law_c2_poly := by
  have S := sc_law_c2_poly
  refine fnA_of0 (N := N_law_c2_poly) (ps := ["jar", "most_now"]) (k := 3) (fx := fx_law_c2_poly) (body := b_law_c2_poly) Fn S (fun c A outer s H E hK hM hT hfx hr hG => ?_)
  unfold b_law_c2_poly B_law_c2_poly
  exact ss_cons (s_set (i := 2) S.nd rfl (by first | exact Or.inl rfl | exact Or.inr rfl) (congrFun hfx 2) (t_fz (t_call (FnY.at hT (y_law_one W)) hK hM (hr.mono (by decide)) (.inl hG) W.g_law_one (W.k_law_one) (ta_cons (t_nm 0) (ta_cons (t_fz (t_lst (ta_cons (t_int) (ta_cons (t_int) (ta_cons (t_int) (ta_cons (t_int) (ta_cons (t_int) (ta_cons (t_int) (ta_cons (t_int) (ta_cons (t_vl 1) (ta_nil))))))))))) (ta_nil))))))
    (ss_cons (s_setLc (i := 3) (own := [("at", 4)]) rfl S.nd rfl rfl (congrFun hfx 3) (sw_true rfl rfl rfl (by decide +kernel)) (own_fx hfx (by decide)) (by decide) (i_range1 W.n_range (t_min2 rfl W.n_min (t_nm 2) (t_nm 1))) (blkOk_by (own := [("at", 4)]) (N := N_law_c2_poly) (sc := (defScope s_law_c2_poly)) (by decide +kernel)) (fun _ _ _ _ _ => g_name (i := 4) S.nd rfl (by first | exact Or.inl rfl | exact Or.inr rfl) (congrFun hfx 4)) (fun _ _ _ _ _ => tts_nil) (fun _ _ _ _ _ => t_call (FnY.at hT (y_law_yv_residue W)) hK hM (hr.mono (by decide)) (.inl hG) W.g_law_yv_residue (W.k_law_yv_residue) (ta_cons (t_nm 0) (ta_nil))))
    (ss_cons (s_if (tt_eq hK hr.units (t_call (FnY.at hT (y_law_take W)) hK hM (hr.mono (by decide)) (.inl hG) W.g_law_take (W.k_law_take) (ta_cons (t_nm 0) (ta_cons (t_int) (ta_nil)))) (t_int)) (ss_one (s_set (i := 3) S.nd rfl (by first | exact Or.inl rfl | exact Or.inr rfl) (congrFun hfx 3) (t_fz (t_add hK (t_slc hK (t_nm 3) (to_none) (to_some (t_sub (t_nm 1) (t_int)))) (t_fz (t_mul hK (t_lst (ta_cons (t_int) (ta_nil))) (t_call (FnY.at hT (y_law_one W)) hK hM (hr.mono (by decide)) (.inl hG) W.g_law_one (W.k_law_one) (ta_cons (t_nm 0) (ta_cons (t_fz (t_lst (ta_cons (t_int) (ta_cons (t_int) (ta_nil))))) (ta_nil)))))))))) (ss_nil))
    (ss_one (s_ret (t_if (tt_gt (t_call (FnY.at hT (y_law_take W)) hK hM (hr.mono (by decide)) (.inl hG) W.g_law_take (W.k_law_take) (ta_cons (t_nm 0) (ta_cons (t_int) (ta_nil)))) (t_int)) (t_tuple hK W.n_tuple (t_nm 3)) (t_mul hK (t_tup (ta_cons (t_int) (ta_nil))) (t_len hK W.n_len (t_nm 3))))))))
theorem y_law_c2_poly (W : Wd K mg base) : FnY P w K mg base (TT K) 5 4 (He.ga K "_law_c2_poly") d_law_c2_poly := by
  obtain ⟨fd, Fn⟩ := W.F_law_c2_poly
  exact (a_law_c2_poly W Fn).y0 (binds_mk Fn fun _ _ _ _ _ _ us hl => match us, hl with | [_, _], _ => rfl)
theorem sc_law_c2_tells : FnScope N_law_c2_tells ["call", "owed"] (defScope s_law_c2_tells) := ⟨rfl, rfl, rfl, by decide +kernel, rfl, by decide +kernel, by decide +kernel⟩
theorem a_law_c2_tells (W : Wd K mg base) {fd : FuncData} (Fn : Fun K "_law_c2_tells" "_law_c2_tells" s_law_c2_tells (He.ga K "_law_c2_tells") fd) : FnA P w K mg base (TT K) 5 7 (He.ga K "_law_c2_tells") fd ["call", "owed"] d_law_c2_tells := by
  have S := sc_law_c2_tells
  refine fnA_of (N := N_law_c2_tells) (ps := ["call", "owed"]) (k := 6) (fx := fx_law_c2_tells) (body := b_law_c2_tells) Fn S (fun c A outer s H E hK hM hT hfx hr hG0 => ?_)
  have hG : CloAt (cxOf (L2N.CX P w) P w K mg base N_law_c2_tells "_law_c2_tells" (defScope s_law_c2_tells) (He.ga K "_law_c2_tells") fd.code A outer s H E) c 5 := .inr ⟨rfl, hG0⟩
  unfold b_law_c2_tells B_law_c2_tells
  exact ss_one (s_ret (t_call (FnY.at hT (y_law_yv_same W)) hK hM (hr.mono (by decide)) hG W.g_law_yv_same (W.k_law_yv_same) (ta_cons (t_call (FnY.at hT (y_law_c2_heard W)) hK hM (hr.mono (by decide)) hG W.g_law_c2_heard (W.k_law_c2_heard) (ta_cons (t_nm 0) (ta_nil))) (ta_cons (t_tup (ta_cons (t_str) (ta_cons (t_vl 1) (ta_nil)))) (ta_nil)))))
theorem y_law_c2_tells (W : Wd K mg base) : FnY P w K mg base (TT K) 5 7 (He.ga K "_law_c2_tells") d_law_c2_tells := by
  obtain ⟨fd, Fn⟩ := W.F_law_c2_tells
  exact (a_law_c2_tells W Fn).y (binds_mk Fn fun _ _ _ _ _ _ us hl => match us, hl with | [_, _], _ => rfl)
theorem sc_law_c2_at_right : FnScope N_law_c2_at_right ["poly", "a", "owed"] (defScope s_law_c2_at_right) := ⟨rfl, rfl, rfl, by decide +kernel, rfl, by decide +kernel, by decide +kernel⟩
theorem a_law_c2_at_right (W : Wd K mg base) {fd : FuncData} (Fn : Fun K "_law_c2_at_right" "_law_c2_at_right" s_law_c2_at_right (He.ga K "_law_c2_at_right") fd) : FnA P w K mg base (TT K) 5 8 (He.ga K "_law_c2_at_right") fd ["poly", "a", "owed"] d_law_c2_at_right := by
  have S := sc_law_c2_at_right
  refine fnA_of0 (N := N_law_c2_at_right) (ps := ["poly", "a", "owed"]) (k := 7) (fx := fx_law_c2_at_right) (body := b_law_c2_at_right) Fn S (fun c A outer s H E hK hM hT hfx hr hG => ?_)
  unfold b_law_c2_at_right B_law_c2_at_right
  exact ss_one (s_ret (t_lam (LB := 4) (FnY.at hT (y_law_c2_tells W)) hK hM (hr.mono (by decide)) W.g_law_c2_tells (W.k_law_c2_tells) (W.tb ("_law_c2_at_right", none) (by decide)) (code_of Fn) (by rw [hT]; exact qtab_mem (p := ("_law_c2_at_right", none)) (by decide)) (by rw [hT]; exact qtab_one W.nd (by decide)) (LamX.lamS_by (sc := defScope s_law_c2_at_right) (by decide +kernel)) rfl (fun _ _ _ _ _ => rfl) (fun cl A outer s H E f c' hK hM hTl hG hr => t_call (FnY.at (hTl.trans hT) (y_value W)) hK hM (hr.mono (by decide)) (.inl hG) W.g_value (W.k_value) (ta_cons (t_nm 0) (ta_cons (t_nm 1) (ta_nil)))) (ta_cons (t_nm 2) (ta_nil))))
theorem y_law_c2_at_right (W : Wd K mg base) : FnY P w K mg base (TT K) 5 8 (He.ga K "_law_c2_at_right") d_law_c2_at_right := by
  obtain ⟨fd, Fn⟩ := W.F_law_c2_at_right
  exact (a_law_c2_at_right W Fn).y0 (binds_mk Fn fun _ _ _ _ _ _ us hl => match us, hl with | [_, _, _], _ => rfl)
theorem sc_law_c2_other_right : FnScope N_law_c2_other_right ["one", "two", "both"] (defScope s_law_c2_other_right) := ⟨rfl, rfl, rfl, by decide +kernel, rfl, by decide +kernel, by decide +kernel⟩
theorem a_law_c2_other_right (W : Wd K mg base) {fd : FuncData} (Fn : Fun K "_law_c2_other_right" "_law_c2_other_right" s_law_c2_other_right (He.ga K "_law_c2_other_right") fd) : FnA P w K mg base (TT K) 5 8 (He.ga K "_law_c2_other_right") fd ["one", "two", "both"] d_law_c2_other_right := by
  have S := sc_law_c2_other_right
  refine fnA_of0 (N := N_law_c2_other_right) (ps := ["one", "two", "both"]) (k := 7) (fx := fx_law_c2_other_right) (body := b_law_c2_other_right) Fn S (fun c A outer s H E hK hM hT hfx hr hG => ?_)
  unfold b_law_c2_other_right B_law_c2_other_right
  exact ss_one (s_ret (t_lam (LB := 4) (FnY.at hT (y_law_c2_tells W)) hK hM (hr.mono (by decide)) W.g_law_c2_tells (W.k_law_c2_tells) (W.tb ("_law_c2_other_right", none) (by decide)) (code_of Fn) (by rw [hT]; exact qtab_mem (p := ("_law_c2_other_right", none)) (by decide)) (by rw [hT]; exact qtab_one W.nd (by decide)) (LamX.lamS_by (sc := defScope s_law_c2_other_right) (by decide +kernel)) rfl (fun _ _ _ _ _ => rfl) (fun cl A outer s H E f c' hK hM hTl hG hr => t_call (FnY.at (hTl.trans hT) (y_times W)) hK hM (hr.mono (by decide)) (.inl hG) W.g_times (W.k_times) (ta_cons (t_nm 1) (ta_cons (t_nm 0) (ta_nil)))) (ta_cons (t_nm 2) (ta_nil))))
theorem y_law_c2_other_right (W : Wd K mg base) : FnY P w K mg base (TT K) 5 8 (He.ga K "_law_c2_other_right") d_law_c2_other_right := by
  obtain ⟨fd, Fn⟩ := W.F_law_c2_other_right
  exact (a_law_c2_other_right W Fn).y0 (binds_mk Fn fun _ _ _ _ _ _ us hl => match us, hl with | [_, _, _], _ => rfl)
theorem sc_law_c2_times : FnScope N_law_c2_times ["one", "two"] (defScope s_law_c2_times) := ⟨rfl, rfl, rfl, by decide +kernel, rfl, by decide +kernel, by decide +kernel⟩
theorem a_law_c2_times (W : Wd K mg base) {fd : FuncData} (Fn : Fun K "_law_c2_times" "_law_c2_times" s_law_c2_times (He.ga K "_law_c2_times") fd) : FnA P w K mg base (TT K) 5 1 (He.ga K "_law_c2_times") fd ["one", "two"] d_law_c2_times := by
  have S := sc_law_c2_times
  refine fnA_of0 (N := N_law_c2_times) (ps := ["one", "two"]) (k := 0) (fx := fx_law_c2_times) (body := b_law_c2_times) Fn S (fun c A outer s H E hK hM hT hfx hr hG => ?_)
  unfold b_law_c2_times
  exact ss_cons (s_if (TrW.t (tw_or (tt_eq hK hr.units (t_nm 0) (t_tup (ta_nil))) (tw_or1 (tt_eq hK hr.units (t_nm 1) (t_tup (ta_nil)))))) (ss_one (s_ret (t_tup (ta_nil)))) (ss_nil))
    (ss_cons (s_set (i := 2) S.nd rfl (by first | exact Or.inl rfl | exact Or.inr rfl) (congrFun hfx 2) (t_mul hK (t_lst (ta_cons (t_int) (ta_nil))) (t_sub (t_add hK (t_len hK W.n_len (t_nm 0)) (t_len hK W.n_len (t_nm 1))) (t_int))))
    (ss_cons (s_for (passes_of rfl) rfl (i_range1 W.n_range (t_len hK W.n_len (t_nm 0))) (g_name (i := 3) S.nd rfl (by first | exact Or.inl rfl | exact Or.inr rfl) (congrFun hfx 3)) (ss_one (s_for (passes_of rfl) rfl (i_range1 W.n_range (t_len hK W.n_len (t_nm 1))) (g_name (i := 4) S.nd rfl (by first | exact Or.inl rfl | exact Or.inr rfl) (congrFun hfx 4)) (ss_one (s_sto (i := 2) rfl (t_mod (t_int1 W.n_int (t_add hK (t_ixA hK (hu_of hr) (t_nm 2) (t_add hK (t_nm 3) (t_nm 4))) (t_mul hK (t_ixA hK (hu_of hr) (t_nm 0) (t_nm 3)) (t_ixA hK (hu_of hr) (t_nm 1) (t_nm 4))))) (t_int)) (t_add hK (t_nm 3) (t_nm 4)))))))
    (ss_one (s_ret (t_tuple hK W.n_tuple (t_nm 2))))))
theorem y_law_c2_times (W : Wd K mg base) : FnY P w K mg base (TT K) 5 1 (He.ga K "_law_c2_times") d_law_c2_times := by
  obtain ⟨fd, Fn⟩ := W.F_law_c2_times
  exact (a_law_c2_times W Fn).y0 (binds_mk Fn fun _ _ _ _ _ _ us hl => match us, hl with | [_, _], _ => rfl)
theorem sc_law_c2_value : FnScope N_law_c2_value ["poly", "a"] (defScope s_law_c2_value) := ⟨rfl, rfl, rfl, by decide +kernel, rfl, by decide +kernel, by decide +kernel⟩
theorem a_law_c2_value (W : Wd K mg base) {fd : FuncData} (Fn : Fun K "_law_c2_value" "_law_c2_value" s_law_c2_value (He.ga K "_law_c2_value") fd) : FnA P w K mg base (TT K) 5 1 (He.ga K "_law_c2_value") fd ["poly", "a"] d_law_c2_value := by
  have S := sc_law_c2_value
  refine fnA_of0 (N := N_law_c2_value) (ps := ["poly", "a"]) (k := 0) (fx := fx_law_c2_value) (body := b_law_c2_value) Fn S (fun c A outer s H E hK hM hT hfx hr hG => ?_)
  unfold b_law_c2_value
  exact ss_cons (s_set (i := 2) S.nd rfl (by first | exact Or.inl rfl | exact Or.inr rfl) (congrFun hfx 2) (t_int))
    (ss_cons (s_for (passes_of rfl) rfl (i_seq hK (t_rev hK (t_nm 0))) (g_name (i := 3) S.nd rfl (by first | exact Or.inl rfl | exact Or.inr rfl) (congrFun hfx 3)) (ss_one (s_set (i := 2) S.nd rfl (by first | exact Or.inl rfl | exact Or.inr rfl) (congrFun hfx 2) (t_mod (t_int1 W.n_int (t_add hK (t_mul hK (t_nm 2) (t_nm 1)) (t_nm 3))) (t_int)))))
    (ss_one (s_ret (t_nm 2))))
theorem y_law_c2_value (W : Wd K mg base) : FnY P w K mg base (TT K) 5 1 (He.ga K "_law_c2_value") d_law_c2_value := by
  obtain ⟨fd, Fn⟩ := W.F_law_c2_value
  exact (a_law_c2_value W Fn).y0 (binds_mk Fn fun _ _ _ _ _ _ us hl => match us, hl with | [_, _], _ => rfl)
theorem sc_law_c2_products_right : FnScope N_law_c2_products_right ["jar", "one", "two"] (defScope s_law_c2_products_right) := ⟨rfl, rfl, rfl, by decide +kernel, rfl, by decide +kernel, by decide +kernel⟩
theorem a_law_c2_products_right (W : Wd K mg base) {fd : FuncData} (Fn : Fun K "_law_c2_products_right" "_law_c2_products_right" s_law_c2_products_right (He.ga K "_law_c2_products_right") fd) : FnA P w K mg base (TT K) 5 9 (He.ga K "_law_c2_products_right") fd ["jar", "one", "two"] d_law_c2_products_right := by
  have S := sc_law_c2_products_right
  refine fnA_of0 (N := N_law_c2_products_right) (ps := ["jar", "one", "two"]) (k := 8) (fx := fx_law_c2_products_right) (body := b_law_c2_products_right) Fn S (fun c A outer s H E hK hM hT hfx hr hG => ?_)
  unfold b_law_c2_products_right B_law_c2_products_right
  exact ss_cons (s_set (i := 3) S.nd rfl (by first | exact Or.inl rfl | exact Or.inr rfl) (congrFun hfx 3) (t_call (FnY.at hT (y_law_c2_times W)) hK hM (hr.mono (by decide)) (.inl hG) W.g_law_c2_times (W.k_law_c2_times) (ta_cons (t_nm 1) (ta_cons (t_nm 2) (ta_nil)))))
    (ss_cons (s_if (TrW.t (tw_or (tt_not (tt_val (t_lam (LB := 4) (FnY.at hT (y_law_c2_tells W)) hK hM (hr.mono (by decide)) W.g_law_c2_tells (W.k_law_c2_tells) (W.tb ("_law_c2_products_right", none) (by decide)) (code_of Fn) (by rw [hT]; exact qtab_mem (p := ("_law_c2_products_right", none)) (by decide)) (by rw [hT]; exact qtab_one W.nd (by decide)) (LamX.lamS_by (sc := defScope s_law_c2_products_right) (by decide +kernel)) rfl (fun _ _ _ _ _ => rfl) (fun cl A outer s H E f c' hK hM hTl hG hr => t_call (FnY.at (hTl.trans hT) (y_times W)) hK hM (hr.mono (by decide)) (.inl hG) W.g_times (W.k_times) (ta_cons (t_nm 1) (ta_cons (t_nm 2) (ta_nil)))) (ta_cons (t_nm 3) (ta_nil))))) (tw_or1 (tt_not (tt_val (t_call (FnY.at hT (y_law_c2_other_right W)) hK hM (hr.mono (by decide)) (.inl hG) W.g_law_c2_other_right (W.k_law_c2_other_right) (ta_cons (t_nm 1) (ta_cons (t_nm 2) (ta_cons (t_nm 3) (ta_nil)))))))))) (ss_one (s_ret (t_bl))) (ss_nil))
    (ss_cons (s_for (passes_of rfl) rfl (i_range1 W.n_range (t_int)) (g_name (i := 4) S.nd rfl (by first | exact Or.inl rfl | exact Or.inr rfl) (congrFun hfx 4)) (ss_cons (s_set (i := 5) S.nd rfl (by first | exact Or.inl rfl | exact Or.inr rfl) (congrFun hfx 5) (t_call (FnY.at hT (y_law_yv_residue W)) hK hM (hr.mono (by decide)) (.inl hG) W.g_law_yv_residue (W.k_law_yv_residue) (ta_cons (t_nm 0) (ta_nil))))
    (ss_cons (s_par (i := 6) (j := 7) rfl S.nd rfl rfl (by decide) (congrFun hfx 6) (congrFun hfx 7) rfl rfl (ta_cons (t_call (FnY.at hT (y_law_c2_value W)) hK hM (hr.mono (by decide)) (.inl hG) W.g_law_c2_value (W.k_law_c2_value) (ta_cons (t_nm 1) (ta_cons (t_nm 5) (ta_nil)))) (ta_cons (t_call (FnY.at hT (y_law_c2_value W)) hK hM (hr.mono (by decide)) (.inl hG) W.g_law_c2_value (W.k_law_c2_value) (ta_cons (t_nm 2) (ta_cons (t_nm 5) (ta_nil)))) (ta_nil))))
    (ss_cons (s_if (TrW.t (tw_or (tt_not (tt_val (t_lam (LB := 4) (FnY.at hT (y_law_c2_tells W)) hK hM (hr.mono (by decide)) W.g_law_c2_tells (W.k_law_c2_tells) (W.tb ("_law_c2_products_right", none) (by decide)) (code_of Fn) (by rw [hT]; exact qtab_mem (p := ("_law_c2_products_right", none)) (by decide)) (by rw [hT]; exact qtab_one W.nd (by decide)) (LamX.lamS_by (sc := defScope s_law_c2_products_right) (by decide +kernel)) rfl (fun _ _ _ _ _ => rfl) (fun cl A outer s H E f c' hK hM hTl hG hr => t_call (FnY.at (hTl.trans hT) (y_value W)) hK hM (hr.mono (by decide)) (.inl hG) W.g_value (W.k_value) (ta_cons (t_nm 1) (ta_cons (t_nm 5) (ta_nil)))) (ta_cons (t_nm 6) (ta_nil))))) (tw_or1 (tt_not (tt_val (t_call (FnY.at hT (y_law_c2_at_right W)) hK hM (hr.mono (by decide)) (.inl hG) W.g_law_c2_at_right (W.k_law_c2_at_right) (ta_cons (t_nm 2) (ta_cons (t_nm 5) (ta_cons (t_nm 7) (ta_nil)))))))))) (ss_one (s_ret (t_bl))) (ss_nil))
    (ss_cons (s_if (tt_ne hK hr.units (t_call (FnY.at hT (y_law_c2_value W)) hK hM (hr.mono (by decide)) (.inl hG) W.g_law_c2_value (W.k_law_c2_value) (ta_cons (t_nm 3) (ta_cons (t_nm 5) (ta_nil)))) (t_mod (t_int1 W.n_int (t_mul hK (t_nm 6) (t_nm 7))) (t_int))) (ss_one (s_ret (t_bl))) (ss_nil))
    (ss_one (s_if (TrW.t (tw_and (tt_lt (t_len hK W.n_len (t_nm 3)) (t_int)) (tw_and1 (tt_not (tt_val (t_call (FnY.at hT (y_law_c2_at_right W)) hK hM (hr.mono (by decide)) (.inl hG) W.g_law_c2_at_right (W.k_law_c2_at_right) (ta_cons (t_nm 3) (ta_cons (t_nm 5) (ta_cons (t_mod (t_int1 W.n_int (t_mul hK (t_nm 6) (t_nm 7))) (t_int)) (ta_nil)))))))))) (ss_one (s_ret (t_bl))) (ss_nil))))))))
    (ss_one (s_ret (t_bl)))))
theorem y_law_c2_products_right (W : Wd K mg base) : FnY P w K mg base (TT K) 5 9 (He.ga K "_law_c2_products_right") d_law_c2_products_right := by
  obtain ⟨fd, Fn⟩ := W.F_law_c2_products_right
  exact (a_law_c2_products_right W Fn).y0 (binds_mk Fn fun _ _ _ _ _ _ us hl => match us, hl with | [_, _, _], _ => rfl)
theorem sc_law_c2_cut : FnScope N_law_c2_cut ["poly"] (defScope s_law_c2_cut) := ⟨rfl, rfl, rfl, by decide +kernel, rfl, by decide +kernel, by decide +kernel⟩
theorem a_law_c2_cut (W : Wd K mg base) {fd : FuncData} (Fn : Fun K "_law_c2_cut" "_law_c2_cut" s_law_c2_cut (He.ga K "_law_c2_cut") fd) : FnA P w K mg base (TT K) 5 1 (He.ga K "_law_c2_cut") fd ["poly"] d_law_c2_cut := by
  have S := sc_law_c2_cut
  refine fnA_of0 (N := N_law_c2_cut) (ps := ["poly"]) (k := 0) (fx := fx_law_c2_cut) (body := b_law_c2_cut) Fn S (fun c A outer s H E hK hM hT hfx hr hG => ?_)
  unfold b_law_c2_cut
  exact ss_cons (s_set (i := 1) S.nd rfl (by first | exact Or.inl rfl | exact Or.inr rfl) (congrFun hfx 1) (t_list hK W.n_list (t_nm 0)))
    (ss_cons (s_while (n := 1000) (passes_of rfl) (TrW.t (tw_and (tt_ne hK hr.units (t_nm 1) (t_lst (ta_nil))) (tw_and1 (tt_eq hK hr.units (t_ixA hK (hu_of hr) (t_nm 1) (t_neg (t_int))) (t_int))))) (ss_one (s_expr (t_pop (i := 1) rfl))))
    (ss_one (s_ret (t_tuple hK W.n_tuple (t_nm 1)))))
theorem y_law_c2_cut (W : Wd K mg base) : FnY P w K mg base (TT K) 5 1 (He.ga K "_law_c2_cut") d_law_c2_cut := by
  obtain ⟨fd, Fn⟩ := W.F_law_c2_cut
  exact (a_law_c2_cut W Fn).y0 (binds_mk Fn fun _ _ _ _ _ _ us hl => match us, hl with | [_], _ => rfl)
theorem sc_law_c2_power : FnScope N_law_c2_power ["a", "many"] (defScope s_law_c2_power) := ⟨rfl, rfl, rfl, by decide +kernel, rfl, by decide +kernel, by decide +kernel⟩
theorem a_law_c2_power (W : Wd K mg base) {fd : FuncData} (Fn : Fun K "_law_c2_power" "_law_c2_power" s_law_c2_power (He.ga K "_law_c2_power") fd) : FnA P w K mg base (TT K) 5 1 (He.ga K "_law_c2_power") fd ["a", "many"] d_law_c2_power := by
  have S := sc_law_c2_power
  refine fnA_of0 (N := N_law_c2_power) (ps := ["a", "many"]) (k := 0) (fx := fx_law_c2_power) (body := b_law_c2_power) Fn S (fun c A outer s H E hK hM hT hfx hr hG => ?_)
  unfold b_law_c2_power
  exact ss_cons (s_par3 (i := 2) (j := 3) (l := 4) rfl S.nd rfl rfl rfl (by decide) (by decide) (by decide) (congrFun hfx 2) (congrFun hfx 3) (congrFun hfx 4) rfl rfl rfl (ta_cons (t_int) (ta_cons (t_int1 W.n_int (t_nm 0)) (ta_cons (t_int1 W.n_int (t_nm 1)) (ta_nil)))))
    (ss_cons (s_while (n := 1000) (passes_of rfl) (tt_gt (t_nm 4) (t_int)) (ss_cons (s_set (i := 2) S.nd rfl (by first | exact Or.inl rfl | exact Or.inr rfl) (congrFun hfx 2) (t_if (tt_eq hK hr.units (t_mod (t_nm 4) (t_int)) (t_int)) (t_mod (t_int1 W.n_int (t_mul hK (t_nm 2) (t_nm 3))) (t_int)) (t_vl 2)))
    (ss_one (s_par (i := 3) (j := 4) rfl S.nd rfl rfl (by decide) (congrFun hfx 3) (congrFun hfx 4) rfl rfl (ta_cons (t_mod (t_int1 W.n_int (t_mul hK (t_nm 3) (t_nm 3))) (t_int)) (ta_cons (t_fdiv (t_nm 4) (t_int)) (ta_nil)))))))
    (ss_one (s_ret (t_nm 2))))
theorem y_law_c2_power (W : Wd K mg base) : FnY P w K mg base (TT K) 5 1 (He.ga K "_law_c2_power") d_law_c2_power := by
  obtain ⟨fd, Fn⟩ := W.F_law_c2_power
  exact (a_law_c2_power W Fn).y0 (binds_mk Fn fun _ _ _ _ _ _ us hl => match us, hl with | [_, _], _ => rfl)
theorem sc_law_c2_quotient : FnScope N_law_c2_quotient ["one", "two"] (defScope s_law_c2_quotient) := ⟨rfl, rfl, rfl, by decide +kernel, rfl, by decide +kernel, by decide +kernel⟩
theorem a_law_c2_quotient (W : Wd K mg base) {fd : FuncData} (Fn : Fun K "_law_c2_quotient" "_law_c2_quotient" s_law_c2_quotient (He.ga K "_law_c2_quotient") fd) : FnA P w K mg base (TT K) 5 2 (He.ga K "_law_c2_quotient") fd ["one", "two"] d_law_c2_quotient := by
  have S := sc_law_c2_quotient
  refine fnA_of0 (N := N_law_c2_quotient) (ps := ["one", "two"]) (k := 1) (fx := fx_law_c2_quotient) (body := b_law_c2_quotient) Fn S (fun c A outer s H E hK hM hT hfx hr hG => ?_)
  unfold b_law_c2_quotient B_law_c2_quotient
  exact ss_cons (s_par (i := 2) (j := 3) rfl S.nd rfl rfl (by decide) (congrFun hfx 2) (congrFun hfx 3) rfl rfl (ta_cons (t_list hK W.n_list (t_call (FnY.at hT (y_law_c2_cut W)) hK hM (hr.mono (by decide)) (.inl hG) W.g_law_c2_cut (W.k_law_c2_cut) (ta_cons (t_nm 0) (ta_nil)))) (ta_cons (t_call (FnY.at hT (y_law_c2_cut W)) hK hM (hr.mono (by decide)) (.inl hG) W.g_law_c2_cut (W.k_law_c2_cut) (ta_cons (t_nm 1) (ta_nil))) (ta_nil))))
    (ss_cons (s_par (i := 4) (j := 5) rfl S.nd rfl rfl (by decide) (congrFun hfx 4) (congrFun hfx 5) rfl rfl (ta_cons (t_call (FnY.at hT (y_law_c2_power W)) hK hM (hr.mono (by decide)) (.inl hG) W.g_law_c2_power (W.k_law_c2_power) (ta_cons (t_ixA hK (hu_of hr) (t_nm 3) (t_neg (t_int))) (ta_cons (t_int) (ta_nil)))) (ta_cons (t_lst (ta_nil)) (ta_nil))))
    (ss_cons (s_for (passes_of rfl) rfl (i_range1 W.n_range (t_add hK (t_sub (t_len hK W.n_len (t_nm 2)) (t_len hK W.n_len (t_nm 3))) (t_int))) (g_name (i := 6) S.nd rfl (by first | exact Or.inl rfl | exact Or.inr rfl) (congrFun hfx 6)) (ss_cons (s_set (i := 7) S.nd rfl (by first | exact Or.inl rfl | exact Or.inr rfl) (congrFun hfx 7) (t_sub (t_sub (t_len hK W.n_len (t_nm 2)) (t_len hK W.n_len (t_nm 3))) (t_nm 6)))
    (ss_cons (s_set (i := 8) S.nd rfl (by first | exact Or.inl rfl | exact Or.inr rfl) (congrFun hfx 8) (t_mod (t_int1 W.n_int (t_mul hK (t_ixA hK (hu_of hr) (t_nm 2) (t_sub (t_add hK (t_nm 7) (t_len hK W.n_len (t_nm 3))) (t_int))) (t_nm 4))) (t_int)))
    (ss_cons (s_expr (t_append (i := 5) rfl (ta_cons (t_vl 8) (ta_nil))))
    (ss_one (s_for (passes_of rfl) rfl (i_range1 W.n_range (t_len hK W.n_len (t_nm 3))) (g_name (i := 9) S.nd rfl (by first | exact Or.inl rfl | exact Or.inr rfl) (congrFun hfx 9)) (ss_one (s_sto (i := 2) rfl (t_mod (t_int1 W.n_int (t_sub (t_ixA hK (hu_of hr) (t_nm 2) (t_add hK (t_nm 7) (t_nm 9))) (t_mul hK (t_nm 8) (t_ixA hK (hu_of hr) (t_nm 3) (t_nm 9))))) (t_int)) (t_add hK (t_nm 7) (t_nm 9))))))))))
    (ss_one (s_ret (t_if (tt_eq hK hr.units (t_lc (own := [("number", 10)]) rfl S.nd (own_fx hfx (by decide)) (by decide) (i_seq hK (t_vl 2)) (blkOk_by (own := [("number", 10)]) (N := N_law_c2_quotient) (sc := (defScope s_law_c2_quotient)) (by decide +kernel)) (fun _ _ _ _ _ => g_name (i := 10) S.nd rfl (by first | exact Or.inl rfl | exact Or.inr rfl) (congrFun hfx 10)) (fun _ _ _ _ _ => tts_one (tt_ne hK hr.units (t_nm 10) (t_int))) (fun _ _ _ _ _ => t_vl 10)) (t_lst (ta_nil))) (t_tuple hK W.n_tuple (t_rev hK (t_nm 5))) (t_non))))))
theorem y_law_c2_quotient (W : Wd K mg base) : FnY P w K mg base (TT K) 5 2 (He.ga K "_law_c2_quotient") d_law_c2_quotient := by
  obtain ⟨fd, Fn⟩ := W.F_law_c2_quotient
  exact (a_law_c2_quotient W Fn).y0 (binds_mk Fn fun _ _ _ _ _ _ us hl => match us, hl with | [_, _], _ => rfl)
theorem sc_law_c2_quotients_right : FnScope N_law_c2_quotients_right ["jar", "one", "two"] (defScope s_law_c2_quotients_right) := ⟨rfl, rfl, rfl, by decide +kernel, rfl, by decide +kernel, by decide +kernel⟩
theorem a_law_c2_quotients_right (W : Wd K mg base) {fd : FuncData} (Fn : Fun K "_law_c2_quotients_right" "_law_c2_quotients_right" s_law_c2_quotients_right (He.ga K "_law_c2_quotients_right") fd) : FnA P w K mg base (TT K) 5 8 (He.ga K "_law_c2_quotients_right") fd ["jar", "one", "two"] d_law_c2_quotients_right := by
  have S := sc_law_c2_quotients_right
  refine fnA_of0 (N := N_law_c2_quotients_right) (ps := ["jar", "one", "two"]) (k := 7) (fx := fx_law_c2_quotients_right) (body := b_law_c2_quotients_right) Fn S (fun c A outer s H E hK hM hT hfx hr hG => ?_)
  unfold b_law_c2_quotients_right B_law_c2_quotients_right
  exact ss_cons (s_set (i := 3) S.nd rfl (by first | exact Or.inl rfl | exact Or.inr rfl) (congrFun hfx 3) (t_slc hK (t_call (FnY.at hT (y_law_c2_times W)) hK hM (hr.mono (by decide)) (.inl hG) W.g_law_c2_times (W.k_law_c2_times) (ta_cons (t_nm 1) (ta_cons (t_nm 2) (ta_nil)))) (to_none) (to_some (t_int))))
    (ss_cons (s_set (i := 4) S.nd rfl (by first | exact Or.inl rfl | exact Or.inr rfl) (congrFun hfx 4) (t_call (FnY.at hT (y_law_take W)) hK hM (hr.mono (by decide)) (.inl hG) W.g_law_take (W.k_law_take) (ta_cons (t_nm 0) (ta_cons (t_max2 rfl W.n_max (t_int) (t_len hK W.n_len (t_nm 3))) (ta_nil)))))
    (ss_cons (s_set (i := 5) S.nd rfl (by first | exact Or.inl rfl | exact Or.inr rfl) (congrFun hfx 5) (t_add hK (t_add hK (t_slc hK (t_nm 3) (to_none) (to_some (t_nm 4))) (t_tup (ta_cons (t_call (FnY.at hT (y_law_yv_residue W)) hK hM (hr.mono (by decide)) (.inl hG) W.g_law_yv_residue (W.k_law_yv_residue) (ta_cons (t_nm 0) (ta_nil))) (ta_nil)))) (t_slc hK (t_nm 3) (to_some (t_add hK (t_nm 4) (t_int))) (to_none))))
    (ss_cons (s_for (passes_of rfl) rfl (i_seq hK (t_lst (ta_cons (t_vl 3) (ta_cons (t_vl 5) (ta_cons (t_vl 1) (ta_cons (t_vl 2) (ta_cons (t_tup (ta_nil)) (ta_cons (t_tup (ta_cons (t_int) (ta_cons (t_int) (ta_nil)))) (ta_cons (t_slc hK (t_nm 3) (to_none) (to_some (t_neg (t_int)))) (ta_cons (t_slc hK (t_add hK (t_nm 3) (t_tup (ta_cons (t_int) (ta_cons (t_int) (ta_nil))))) (to_none) (to_some (t_int))) (ta_nil))))))))))) (g_name (i := 6) S.nd rfl (by first | exact Or.inl rfl | exact Or.inr rfl) (congrFun hfx 6)) (ss_cons (s_set (i := 7) S.nd rfl (by first | exact Or.inl rfl | exact Or.inr rfl) (congrFun hfx 7) (t_lam (LB := 4) (FnY.at hT (y_law_c2_heard W)) hK hM (hr.mono (by decide)) W.g_law_c2_heard (W.k_law_c2_heard) (W.tb ("_law_c2_quotients_right", none) (by decide)) (code_of Fn) (by rw [hT]; exact qtab_mem (p := ("_law_c2_quotients_right", none)) (by decide)) (by rw [hT]; exact qtab_one W.nd (by decide)) (LamX.lamS_by (sc := defScope s_law_c2_quotients_right) (by decide +kernel)) rfl (fun _ _ _ _ _ => rfl) (fun cl A outer s H E f c' hK hM hTl hG hr => t_call (FnY.at (hTl.trans hT) (y_quotient W)) hK hM (hr.mono (by decide)) (.inl hG) W.g_quotient (W.k_quotient) (ta_cons (t_nm 6) (ta_cons (t_nm 2) (ta_nil)))) (ta_nil)))
    (ss_one (s_if (tt_eq hK hr.units (t_call (FnY.at hT (y_law_c2_cut W)) hK hM (hr.mono (by decide)) (.inl hG) W.g_law_c2_cut (W.k_law_c2_cut) (ta_cons (t_nm 2) (ta_nil))) (t_tup (ta_nil))) (ss_one (s_if (tt_not (tt_val (t_call (FnY.at hT (y_law_yv_same W)) hK hM (hr.mono (by decide)) (.inl hG) W.g_law_yv_same (W.k_law_yv_same) (ta_cons (t_nm 7) (ta_cons (t_tup (ta_cons (t_str) (ta_cons (t_vl 2) (ta_nil)))) (ta_nil)))))) (ss_one (s_ret (t_bl))) (ss_nil))) (ss_one (s_if (tt_not (tt_val (t_call (FnY.at hT (y_law_yv_same W)) hK hM (hr.mono (by decide)) (.inl hG) W.g_law_yv_same (W.k_law_yv_same) (ta_cons (t_nm 7) (ta_cons (t_tup (ta_cons (t_str) (ta_cons (t_call (FnY.at hT (y_law_c2_quotient W)) hK hM (hr.mono (by decide)) (.inl hG) W.g_law_c2_quotient (W.k_law_c2_quotient) (ta_cons (t_nm 6) (ta_cons (t_nm 2) (ta_nil)))) (ta_nil)))) (ta_nil)))))) (ss_one (s_ret (t_bl))) (ss_nil)))))))
    (ss_cons (s_if (TrW.t (tw_or (tt_eq hK hr.units (t_call (FnY.at hT (y_law_c2_cut W)) hK hM (hr.mono (by decide)) (.inl hG) W.g_law_c2_cut (W.k_law_c2_cut) (ta_cons (t_nm 2) (ta_nil))) (t_tup (ta_nil))) (tw_or1 (tt_gt (t_add hK (t_len hK W.n_len (t_nm 1)) (t_len hK W.n_len (t_nm 2))) (t_int))))) (ss_one (s_ret (t_bl))) (ss_nil))
    (ss_one (s_ret (t_lam (LB := 4) (FnY.at hT (y_law_c2_tells W)) hK hM (hr.mono (by decide)) W.g_law_c2_tells (W.k_law_c2_tells) (W.tb ("_law_c2_quotients_right", none) (by decide)) (code_of Fn) (by rw [hT]; exact qtab_mem (p := ("_law_c2_quotients_right", none)) (by decide)) (by rw [hT]; exact qtab_one W.nd (by decide)) (LamX.lamS_by (sc := defScope s_law_c2_quotients_right) (by decide +kernel)) rfl (fun _ _ _ _ _ => rfl) (fun cl A outer s H E f c' hK hM hTl hG hr => t_call (FnY.at (hTl.trans hT) (y_quotient W)) hK hM (hr.mono (by decide)) (.inl hG) W.g_quotient (W.k_quotient) (ta_cons (t_nm 3) (ta_cons (t_nm 2) (ta_nil)))) (ta_cons (t_call (FnY.at hT (y_law_c2_cut W)) hK hM (hr.mono (by decide)) (.inl hG) W.g_law_c2_cut (W.k_law_c2_cut) (ta_cons (t_nm 1) (ta_nil))) (ta_nil)))))))))
theorem y_law_c2_quotients_right (W : Wd K mg base) : FnY P w K mg base (TT K) 5 8 (He.ga K "_law_c2_quotients_right") d_law_c2_quotients_right := by
  obtain ⟨fd, Fn⟩ := W.F_law_c2_quotients_right
  exact (a_law_c2_quotients_right W Fn).y0 (binds_mk Fn fun _ _ _ _ _ _ us hl => match us, hl with | [_, _, _], _ => rfl)
theorem sc_law_c2_refused_right : FnScope N_law_c2_refused_right ["jar", "poly"] (defScope s_law_c2_refused_right) := ⟨rfl, rfl, rfl, by decide +kernel, rfl, by decide +kernel, by decide +kernel⟩
theorem a_law_c2_refused_right (W : Wd K mg base) {fd : FuncData} (Fn : Fun K "_law_c2_refused_right" "_law_c2_refused_right" s_law_c2_refused_right (He.ga K "_law_c2_refused_right") fd) : FnA P w K mg base (TT K) 5 7 (He.ga K "_law_c2_refused_right") fd ["jar", "poly"] d_law_c2_refused_right := by
  have S := sc_law_c2_refused_right
  refine fnA_of0 (N := N_law_c2_refused_right) (ps := ["jar", "poly"]) (k := 6) (fx := fx_law_c2_refused_right) (body := b_law_c2_refused_right) Fn S (fun c A outer s H E hK hM hT hfx hr hG => ?_)
  unfold b_law_c2_refused_right B_law_c2_refused_right
  exact ss_cons (s_set (i := 2) S.nd rfl (by first | exact Or.inl rfl | exact Or.inr rfl) (congrFun hfx 2) (t_fz (t_call (FnY.at hT (y_law_one W)) hK hM (hr.mono (by decide)) (.inl hG) W.g_law_one (W.k_law_one) (ta_cons (t_nm 0) (ta_cons (t_fz (t_lst (ta_cons (t_non) (ta_cons (t_fz (t_lst (ta_cons (t_int) (ta_nil)))) (ta_cons (t_mul hK (t_tup (ta_cons (t_int) (ta_nil))) (t_int)) (ta_cons (t_tup (ta_cons (t_non) (ta_nil))) (ta_cons (t_tup (ta_cons (t_int) (ta_cons (t_neg (t_int)) (ta_nil)))) (ta_cons (t_tup (ta_cons (t_int) (ta_nil))) (ta_cons (t_tup (ta_cons (t_int) (ta_cons (t_bl) (ta_nil)))) (ta_cons (t_str) (ta_cons (t_int) (ta_nil)))))))))))) (ta_nil))))))
    (ss_cons (s_set (i := 3) S.nd rfl (by first | exact Or.inl rfl | exact Or.inr rfl) (congrFun hfx 3) (t_fz (t_call (FnY.at hT (y_law_one W)) hK hM (hr.mono (by decide)) (.inl hG) W.g_law_one (W.k_law_one) (ta_cons (t_nm 0) (ta_cons (t_fz (t_lst (ta_cons (t_non) (ta_cons (t_fz (t_lst (ta_cons (t_int) (ta_nil)))) (ta_cons (t_mul hK (t_tup (ta_cons (t_int) (ta_nil))) (t_int)) (ta_cons (t_tup (ta_cons (t_int) (ta_cons (t_int) (ta_cons (t_non) (ta_nil))))) (ta_cons (t_tup (ta_cons (t_neg (t_int)) (ta_nil))) (ta_cons (t_tup (ta_cons (t_int) (ta_cons (t_str) (ta_nil)))) (ta_cons (t_tup (ta_cons (t_bl) (ta_nil))) (ta_nil)))))))))) (ta_nil))))))
    (ss_cons (s_par (i := 4) (j := 5) rfl S.nd rfl rfl (by decide) (congrFun hfx 4) (congrFun hfx 5) rfl rfl (ta_cons (t_call (FnY.at hT (y_law_c2_fault W)) hK hM (hr.mono (by decide)) (.inl hG) W.g_law_c2_fault (W.k_law_c2_fault) (ta_cons (t_nm 2) (ta_nil))) (ta_cons (t_call (FnY.at hT (y_law_c2_fault W)) hK hM (hr.mono (by decide)) (.inl hG) W.g_law_c2_fault (W.k_law_c2_fault) (ta_cons (t_nm 3) (ta_nil))) (ta_nil))))
    (ss_cons (s_set (i := 6) S.nd rfl (by first | exact Or.inl rfl | exact Or.inr rfl) (congrFun hfx 6) (t_lst (ta_cons (t_lam (LB := 4) (FnY.at hT (y_law_c2_heard W)) hK hM (hr.mono (by decide)) W.g_law_c2_heard (W.k_law_c2_heard) (W.tb ("_law_c2_refused_right", none) (by decide)) (code_of Fn) (by rw [hT]; exact qtab_mem (p := ("_law_c2_refused_right", none)) (by decide)) (by rw [hT]; exact qtab_one W.nd (by decide)) (LamX.lamS_by (sc := defScope s_law_c2_refused_right) (by decide +kernel)) rfl (fun _ _ _ _ _ => rfl) (fun cl A outer s H E f c' hK hM hTl hG hr => t_call (FnY.at (hTl.trans hT) (y_times W)) hK hM (hr.mono (by decide)) (.inl hG) W.g_times (W.k_times) (ta_cons (t_nm 2) (ta_cons (t_nm 3) (ta_nil)))) (ta_nil)) (ta_nil))))
    (ss_cons (s_expr (t_append (i := 6) rfl (ta_cons (t_lam (LB := 4) (FnY.at hT (y_law_c2_heard W)) hK hM (hr.mono (by decide)) W.g_law_c2_heard (W.k_law_c2_heard) (W.tb ("_law_c2_refused_right", none) (by decide)) (code_of Fn) (by rw [hT]; exact qtab_mem (p := ("_law_c2_refused_right", none)) (by decide)) (by rw [hT]; exact qtab_one W.nd (by decide)) (LamX.lamS_by (sc := defScope s_law_c2_refused_right) (by decide +kernel)) rfl (fun _ _ _ _ _ => rfl) (fun cl A outer s H E f c' hK hM hTl hG hr => t_call (FnY.at (hTl.trans hT) (y_quotient W)) hK hM (hr.mono (by decide)) (.inl hG) W.g_quotient (W.k_quotient) (ta_cons (t_nm 2) (ta_cons (t_nm 3) (ta_nil)))) (ta_nil)) (ta_nil))))
    (ss_cons (s_expr (t_append (i := 6) rfl (ta_cons (t_lam (LB := 4) (FnY.at hT (y_law_c2_heard W)) hK hM (hr.mono (by decide)) W.g_law_c2_heard (W.k_law_c2_heard) (W.tb ("_law_c2_refused_right", none) (by decide)) (code_of Fn) (by rw [hT]; exact qtab_mem (p := ("_law_c2_refused_right", none)) (by decide)) (by rw [hT]; exact qtab_one W.nd (by decide)) (LamX.lamS_by (sc := defScope s_law_c2_refused_right) (by decide +kernel)) rfl (fun _ _ _ _ _ => rfl) (fun cl A outer s H E f c' hK hM hTl hG hr => t_call (FnY.at (hTl.trans hT) (y_times W)) hK hM (hr.mono (by decide)) (.inl hG) W.g_times (W.k_times) (ta_cons (t_nm 1) (ta_cons (t_nm 3) (ta_nil)))) (ta_nil)) (ta_nil))))
    (ss_cons (s_expr (t_append (i := 6) rfl (ta_cons (t_lam (LB := 4) (FnY.at hT (y_law_c2_heard W)) hK hM (hr.mono (by decide)) W.g_law_c2_heard (W.k_law_c2_heard) (W.tb ("_law_c2_refused_right", none) (by decide)) (code_of Fn) (by rw [hT]; exact qtab_mem (p := ("_law_c2_refused_right", none)) (by decide)) (by rw [hT]; exact qtab_one W.nd (by decide)) (LamX.lamS_by (sc := defScope s_law_c2_refused_right) (by decide +kernel)) rfl (fun _ _ _ _ _ => rfl) (fun cl A outer s H E f c' hK hM hTl hG hr => t_call (FnY.at (hTl.trans hT) (y_quotient W)) hK hM (hr.mono (by decide)) (.inl hG) W.g_quotient (W.k_quotient) (ta_cons (t_nm 1) (ta_cons (t_nm 3) (ta_nil)))) (ta_nil)) (ta_nil))))
    (ss_cons (s_expr (t_append (i := 6) rfl (ta_cons (t_lam (LB := 4) (FnY.at hT (y_law_c2_heard W)) hK hM (hr.mono (by decide)) W.g_law_c2_heard (W.k_law_c2_heard) (W.tb ("_law_c2_refused_right", none) (by decide)) (code_of Fn) (by rw [hT]; exact qtab_mem (p := ("_law_c2_refused_right", none)) (by decide)) (by rw [hT]; exact qtab_one W.nd (by decide)) (LamX.lamS_by (sc := defScope s_law_c2_refused_right) (by decide +kernel)) rfl (fun _ _ _ _ _ => rfl) (fun cl A outer s H E f c' hK hM hTl hG hr => t_call (FnY.at (hTl.trans hT) (y_quotient W)) hK hM (hr.mono (by decide)) (.inl hG) W.g_quotient (W.k_quotient) (ta_cons (t_nm 2) (ta_cons (t_tup (ta_nil)) (ta_nil)))) (ta_nil)) (ta_nil))))
    (ss_cons (s_expr (t_append (i := 6) rfl (ta_cons (t_lam (LB := 4) (FnY.at hT (y_law_c2_heard W)) hK hM (hr.mono (by decide)) W.g_law_c2_heard (W.k_law_c2_heard) (W.tb ("_law_c2_refused_right", none) (by decide)) (code_of Fn) (by rw [hT]; exact qtab_mem (p := ("_law_c2_refused_right", none)) (by decide)) (by rw [hT]; exact qtab_one W.nd (by decide)) (LamX.lamS_by (sc := defScope s_law_c2_refused_right) (by decide +kernel)) rfl (fun _ _ _ _ _ => rfl) (fun cl A outer s H E f c' hK hM hTl hG hr => t_call (FnY.at (hTl.trans hT) (y_quotient W)) hK hM (hr.mono (by decide)) (.inl hG) W.g_quotient (W.k_quotient) (ta_cons (t_nm 1) (ta_cons (t_tup (ta_cons (t_int) (ta_cons (t_int) (ta_cons (t_int) (ta_nil))))) (ta_nil)))) (ta_nil)) (ta_nil))))
    (ss_cons (s_set (i := 7) S.nd rfl (by first | exact Or.inl rfl | exact Or.inr rfl) (congrFun hfx 7) (t_fz (t_add hK (t_fz (t_add hK (t_fz (t_mul hK (t_lst (ta_cons (t_tup (ta_cons (t_str) (ta_cons (t_vl 4) (ta_nil)))) (ta_nil))) (t_int))) (t_fz (t_mul hK (t_lst (ta_cons (t_tup (ta_cons (t_str) (ta_cons (t_vl 5) (ta_nil)))) (ta_nil))) (t_int))))) (t_fz (t_lst (ta_cons (t_tup (ta_cons (t_str) (ta_cons (t_vl 4) (ta_nil)))) (ta_cons (t_tup (ta_cons (t_str) (ta_cons (t_tup (ta_cons (t_int) (ta_cons (t_int) (ta_cons (t_int) (ta_nil))))) (ta_nil)))) (ta_nil))))))))
    (ss_cons (s_if (tt_not (tt_val (t_call (FnY.at hT (y_law_yv_same W)) hK hM (hr.mono (by decide)) (.inl hG) W.g_law_yv_same (W.k_law_yv_same) (ta_cons (t_tuple hK W.n_tuple (t_nm 6)) (ta_cons (t_tuple hK W.n_tuple (t_nm 7)) (ta_nil)))))) (ss_one (s_ret (t_bl))) (ss_nil))
    (ss_cons (s_for (passes_of rfl) rfl (i_seq hK (t_lst (ta_cons (t_int) (ta_cons (t_neg (t_int)) (ta_cons (t_non) (ta_cons (t_bl) (ta_cons (t_str) (ta_cons (t_tup (ta_cons (t_int) (ta_nil))) (ta_cons (t_pow (t_int) (t_int)) (ta_nil)))))))))) (g_name (i := 8) S.nd rfl (by first | exact Or.inl rfl | exact Or.inr rfl) (congrFun hfx 8)) (ss_one (s_if (tt_not (tt_val (t_call (FnY.at hT (y_law_yv_same W)) hK hM (hr.mono (by decide)) (.inl hG) W.g_law_yv_same (W.k_law_yv_same) (ta_cons (t_lam (LB := 4) (FnY.at hT (y_law_c2_heard W)) hK hM (hr.mono (by decide)) W.g_law_c2_heard (W.k_law_c2_heard) (W.tb ("_law_c2_refused_right", none) (by decide)) (code_of Fn) (by rw [hT]; exact qtab_mem (p := ("_law_c2_refused_right", none)) (by decide)) (by rw [hT]; exact qtab_one W.nd (by decide)) (LamX.lamS_by (sc := defScope s_law_c2_refused_right) (by decide +kernel)) rfl (fun _ _ _ _ _ => rfl) (fun cl A outer s H E f c' hK hM hTl hG hr => t_call (FnY.at (hTl.trans hT) (y_value W)) hK hM (hr.mono (by decide)) (.inl hG) W.g_value (W.k_value) (ta_cons (t_nm 1) (ta_cons (t_nm 8) (ta_nil)))) (ta_nil)) (ta_cons (t_tup (ta_cons (t_str) (ta_cons (t_vl 8) (ta_nil)))) (ta_nil)))))) (ss_one (s_ret (t_bl))) (ss_nil))))
    (ss_one (s_ret (t_bl))))))))))))))
theorem y_law_c2_refused_right (W : Wd K mg base) : FnY P w K mg base (TT K) 5 7 (He.ga K "_law_c2_refused_right") d_law_c2_refused_right := by
  obtain ⟨fd, Fn⟩ := W.F_law_c2_refused_right
  exact (a_law_c2_refused_right W Fn).y0 (binds_mk Fn fun _ _ _ _ _ _ us hl => match us, hl with | [_, _], _ => rfl)
theorem sc_law_pool : FnScope N_law_pool ["script"] (defScope s_law_pool) := ⟨rfl, rfl, rfl, by decide +kernel, rfl, by decide +kernel, by decide +kernel⟩
theorem a_law_pool (W : Wd K mg base) {fd : FuncData} (Fn : Fun K "_law_pool" "_law_pool" s_law_pool (He.ga K "_law_pool") fd) : FnA P w K mg base (TT K) 5 1 (He.ga K "_law_pool") fd ["script"] d_law_pool := by
  have S := sc_law_pool
  refine fnA_of0 (N := N_law_pool) (ps := ["script"]) (k := 0) (fx := fx_law_pool) (body := b_law_pool) Fn S (fun c A outer s H E hK hM hT hfx hr hG => ?_)
  unfold b_law_pool
  exact ss_cons (s_asg (t_tup (ta_cons (t_int) (ta_cons (t_int) (ta_nil)))) (g_tup hK rfl (gs_cons (g_name (i := 1) S.nd rfl (by first | exact Or.inl rfl | exact Or.inr rfl) (congrFun hfx 1)) (gs_cons (g_name (i := 2) S.nd rfl (by first | exact Or.inl rfl | exact Or.inr rfl) (congrFun hfx 2)) (gs_nil)))))
    (ss_cons (s_for (passes_of rfl) rfl (i_range1 W.n_range (t_len hK W.n_len (t_nm 0))) (g_name (i := 3) S.nd rfl (by first | exact Or.inl rfl | exact Or.inr rfl) (congrFun hfx 3)) (ss_cons (s_set (i := 4) S.nd rfl (by first | exact Or.inl rfl | exact Or.inr rfl) (congrFun hfx 4) (t_int1 W.n_int (t_max2 rfl W.n_max (t_ixA hK (hu_of hr) (t_nm 0) (t_nm 3)) (t_sub (t_neg (t_int)) (t_ixA hK (hu_of hr) (t_nm 0) (t_nm 3))))))
    (ss_cons (s_set (i := 2) S.nd rfl (by first | exact Or.inl rfl | exact Or.inr rfl) (congrFun hfx 2) (t_mod (t_int1 W.n_int (t_add hK (t_add hK (t_mul hK (t_nm 2) (t_int)) (t_mod (t_nm 4) (t_int))) (t_int))) (t_int)))
    (ss_one (s_set (i := 1) S.nd rfl (by first | exact Or.inl rfl | exact Or.inr rfl) (congrFun hfx 1) (t_if (TrW.t (tw_and (tt_ge (t_nm 4) (t_pow (t_int) (t_int))) (tw_and1 (tt_lt (t_nm 1) (t_pow (t_int) (t_int)))))) (t_int1 W.n_int (t_add hK (t_mul hK (t_nm 1) (t_pow (t_int) (t_int))) (t_mod (t_nm 4) (t_pow (t_int) (t_int))))) (t_vl 1)))))))
    (ss_one (s_ret (t_lst (ta_cons (t_vl 1) (ta_cons (t_vl 2) (ta_cons (t_int) (ta_nil))))))))
theorem y_law_pool (W : Wd K mg base) : FnY P w K mg base (TT K) 5 1 (He.ga K "_law_pool") d_law_pool := by
  obtain ⟨fd, Fn⟩ := W.F_law_pool
  exact (a_law_pool W Fn).y0 (binds_mk Fn fun _ _ _ _ _ _ us hl => match us, hl with | [_], _ => rfl)
theorem sc_law : FnScope N_law ["script"] (defScope s_law) := ⟨rfl, rfl, rfl, by decide +kernel, rfl, by decide +kernel, by decide +kernel⟩
theorem a_law (W : Wd K mg base) {fd : FuncData} (Fn : Fun K "law" "law" s_law (He.ga K "law") fd) : FnA P w K mg base (TT K) 5 13 (He.ga K "law") fd ["script"] d_law := by
  have S := sc_law
  refine fnA_of0 (N := N_law) (ps := ["script"]) (k := 12) (fx := fx_law) (body := b_law) Fn S (fun c A outer s H E hK hM hT hfx hr hG => ?_)
  unfold b_law B_law
  exact ss_cons (s_set (i := 1) S.nd rfl (by first | exact Or.inl rfl | exact Or.inr rfl) (congrFun hfx 1) (t_call (FnY.at hT (y_law_pool W)) hK hM (hr.mono (by decide)) (.inl hG) W.g_law_pool (W.k_law_pool) (ta_cons (t_nm 0) (ta_nil))))
    (ss_cons (s_for (passes_of rfl) rfl (i_range1 W.n_range (t_int)) (g_name (i := 2) S.nd rfl (by first | exact Or.inl rfl | exact Or.inr rfl) (congrFun hfx 2)) (ss_cons (s_par (i := 3) (j := 4) rfl S.nd rfl rfl (by decide) (congrFun hfx 3) (congrFun hfx 4) rfl rfl (ta_cons (t_call (FnY.at hT (y_law_c2_poly W)) hK hM (hr.mono (by decide)) (.inl hG) W.g_law_c2_poly (W.k_law_c2_poly) (ta_cons (t_nm 1) (ta_cons (t_int) (ta_nil)))) (ta_cons (t_call (FnY.at hT (y_law_c2_poly W)) hK hM (hr.mono (by decide)) (.inl hG) W.g_law_c2_poly (W.k_law_c2_poly) (ta_cons (t_nm 1) (ta_cons (t_fz (t_call (FnY.at hT (y_law_one W)) hK hM (hr.mono (by decide)) (.inl hG) W.g_law_one (W.k_law_one) (ta_cons (t_nm 1) (ta_cons (t_fz (t_lst (ta_cons (t_int) (ta_cons (t_int) (ta_cons (t_int) (ta_cons (t_int) (ta_nil))))))) (ta_nil))))) (ta_nil)))) (ta_nil))))
    (ss_cons (s_if (TrW.t (tw_or (tt_not (tt_val (t_call (FnY.at hT (y_law_c2_forms_right W)) hK hM (hr.mono (by decide)) (.inl hG) W.g_law_c2_forms_right (W.k_law_c2_forms_right) (ta_cons (t_nm 1) (ta_cons (t_nm 3) (ta_nil)))))) (tw_or1 (tt_not (tt_val (t_call (FnY.at hT (y_law_c2_products_right W)) hK hM (hr.mono (by decide)) (.inl hG) W.g_law_c2_products_right (W.k_law_c2_products_right) (ta_cons (t_nm 1) (ta_cons (t_nm 3) (ta_cons (t_nm 4) (ta_nil)))))))))) (ss_one (s_ret (t_bl))) (ss_nil))
    (ss_one (s_if (TrW.t (tw_or (tt_not (tt_val (t_call (FnY.at hT (y_law_c2_quotients_right W)) hK hM (hr.mono (by decide)) (.inl hG) W.g_law_c2_quotients_right (W.k_law_c2_quotients_right) (ta_cons (t_nm 1) (ta_cons (t_nm 3) (ta_cons (t_nm 4) (ta_nil))))))) (tw_or1 (tt_not (tt_val (t_call (FnY.at hT (y_law_c2_refused_right W)) hK hM (hr.mono (by decide)) (.inl hG) W.g_law_c2_refused_right (W.k_law_c2_refused_right) (ta_cons (t_nm 1) (ta_cons (t_nm 3) (ta_nil))))))))) (ss_one (s_ret (t_bl))) (ss_nil))))))
    (ss_one (s_ret (t_call0 (FnY.at hT (y_law_c2_hand_right W)) hK hM (hr.mono (by decide)) (.inl hG) W.g_law_c2_hand_right (W.k_law_c2_hand_right)))))
end
/-! ### the head -/
set_option maxHeartbeats 0
def hD (x : Str) (st : Stmt) : He.DefD := ⟨(x, none), x, x, defArgs st, defBody st, defScope st, [], []⟩
def fnR : He.DefD := ⟨("Refused", some "__init__"), "__init__", "Refused.__init__", defArgs s_Rinit, defBody s_Rinit, defScope s_Rinit, [], []⟩
def fn : List He.DefD := fnR :: ([hD "is_residue" s_is_residue, hD "wrong_residues" s_wrong_residues, hD "power" s_power, hD "inverse_of" s_inverse_of, hD "value_at" s_value_at, hD "trimmed" s_trimmed, hD "product_of" s_product_of, hD "quotient_of" s_quotient_of, hD "made_poly" s_made_poly, hD "value" s_value, hD "times" s_times, hD "quotient" s_quotient, hD "_law_pool" s_law_pool, hD "_law_take" s_law_take, hD "_law_one" s_law_one, hD "_law_yv_is_whole" s_law_yv_is_whole, hD "_law_yv_is_in" s_law_yv_is_in, hD "_law_yv_same" s_law_yv_same, hD "_law_yv_is_residue" s_law_yv_is_residue, hD "_law_yv_residue" s_law_yv_residue, hD "_law_yv_bent" s_law_yv_bent, hD "_law_c2_heard" s_law_c2_heard, hD "_law_c2_tells" s_law_c2_tells, hD "_law_c2_fault" s_law_c2_fault, hD "_law_c2_poly" s_law_c2_poly] ++ [hD "_law_c2_value" s_law_c2_value, hD "_law_c2_times" s_law_c2_times, hD "_law_c2_cut" s_law_c2_cut, hD "_law_c2_power" s_law_c2_power, hD "_law_c2_quotient" s_law_c2_quotient, hD "_law_c2_forms_right" s_law_c2_forms_right, hD "_law_c2_products_right" s_law_c2_products_right, hD "_law_c2_other_right" s_law_c2_other_right, hD "_law_c2_at_right" s_law_c2_at_right, hD "_law_c2_quotients_right" s_law_c2_quotients_right, hD "_law_c2_refused_right" s_law_c2_refused_right, hD "_law_c2_hand_right" s_law_c2_hand_right, hD "law" s_law])
def fa : List He.Fa := [.glo "is_residue", .glo "wrong_residues", .glo "power", .glo "inverse_of", .glo "value_at", .glo "trimmed", .glo "product_of", .glo "quotient_of", .glo "made_poly", .glo "value", .glo "times", .glo "quotient", .glo "_law_pool", .glo "_law_take", .glo "_law_one", .glo "_law_yv_is_whole", .glo "_law_yv_is_in", .glo "_law_yv_same", .glo "_law_yv_is_residue", .glo "_law_yv_residue", .glo "_law_yv_bent", .glo "_law_c2_heard", .glo "_law_c2_tells", .glo "_law_c2_fault", .glo "_law_c2_poly", .glo "_law_c2_value", .glo "_law_c2_times", .glo "_law_c2_cut", .glo "_law_c2_power", .glo "_law_c2_quotient"] ++ [.glo "_law_c2_forms_right", .glo "_law_c2_products_right", .glo "_law_c2_other_right", .glo "_law_c2_at_right", .glo "_law_c2_quotients_right", .glo "_law_c2_refused_right", .glo "_law_c2_hand_right", .glo "law", .glo "Refused", .glo "BadResidue", .glo "BadPoly", .glo "Zero", .free "ValueError", .free "bool", .free "enumerate", .free "int", .free "isinstance", .free "len", .free "list", .free "max", .free "min", .free "range", .free "str", .free "tuple", .int "PRIME" 2147483647, .int "MOST_NUMBERS" 40]
def ex (K : PySem.W.Frag) : Bool := objB K (fI K) && (errs.all (fun x => errB K (fI K) (He.ga K x) && (He.eqO (PySem.W.nsIn K mainGlobals x) (some (some (.ref (He.ga K x)))) && (decide (PySem.W.exmOne K (.ref (He.ga K x)) (.ref (He.ga K "Refused")) = some true) && errs.all fun y => decide (PySem.W.kitOne K (.ref (He.ga K x)) (.ref (He.ga K y)) = some (decide (x = y)))))) && decide ((tf.map fun p => (He.cT K p).2).Nodup))
abbrev R : PySem.W.OpenRow := PySem.W.OpenLaw.row PySem.Challenge.rw_liesborne_k02_polys_at_work
abbrev hk : PySem.W.Hook := He.hookX 8 fa fn [] tf ex
def ob (s : PySem.W.SharedT) : He.AlX := He.obsX 8 fa fn [] tf ex (HandSHeadRun.getT s)
theorem ob_eq (s : PySem.W.SharedT) : ob s = hk.obs s.abs := He.obsX_eq (HandSHeadRun.getT_eq s)
def loose : List PySem.Str := (["__name__", "Refused", "BadResidue", "BadPoly", "Zero", "is_residue", "wrong_residues", "power", "inverse_of", "value_at", "trimmed", "product_of", "quotient_of", "made_poly", "value", "times", "quotient", "_law_pool", "_law_take", "_law_one", "_law_yv_is_whole", "_law_yv_is_in", "_law_yv_same", "_law_yv_is_residue", "_law_yv_residue", "_law_yv_bent", "_law_c2_heard", "_law_c2_tells", "_law_c2_fault", "_law_c2_poly"] : List PySem.Str) ++ (["_law_c2_value", "_law_c2_times", "_law_c2_cut", "_law_c2_power", "_law_c2_quotient", "_law_c2_forms_right", "_law_c2_products_right", "_law_c2_other_right", "_law_c2_at_right", "_law_c2_quotients_right", "_law_c2_refused_right", "_law_c2_hand_right", "PRIME", "MOST_NUMBERS"] : List PySem.Str)
theorem run (w : World) : HandSHeadRun.RunEq R (PySem.W.view R.prog [46]) hk ob 4000 loose w := by
  intro os
  kernel_rfl
theorem facts {w : World} {K : PySem.W.Frag} {h h0 : Heap} {mg : Str → Option Value} (X : K.In h) (G : h.Ns mainGlobals mg) (c : He.SaysX fa fn [] tf ex w h0 K) : Fx K mg := by
  have d := c.t.d
  have fs : ∀ {f : He.Fa}, f ∈ fa → f.ok K = true := fun h => d.facts h
  have gl : ∀ x : Str, He.Fa.glo x ∈ fa → mg x = some (.ref (He.ga K x)) := fun x hx => He.glo_ok X G (fs hx)
  obtain ⟨o1, o⟩ := He.ba c.more
  obtain ⟨o2, o3⟩ := He.ba o
  have e2 := fun x hx => He.ba (List.all_eq_true.mp o2 x hx)
  have vI : PySem.W.findCls K (.type "ValueError") (.type "type") "__init__" = some (.val (.builtin "ValueError.__init__")) ∧ PySem.W.typeIn K (.ref (fI K)) = some (.type "function") := by
    unfold objB at o1
    obtain ⟨_, q⟩ := He.ba o1
    obtain ⟨_, q⟩ := He.ba q
    obtain ⟨q1, q2⟩ := He.ba q
    refine ⟨?_, of_decide_eq_true q1⟩
    split at q2
    · rename_i n e
      rw [e, of_decide_eq_true q2]
    · cases q2
  have df : ∀ x : Str, ∀ st : Stmt, hD x st ∈ fn → ∃ fd, Fun K x x st (He.ga K x) fd := fun x st hx => by
    obtain ⟨fd, F⟩ := d.defs hx
    exact ⟨fd, fun_of F⟩
  have kp : ∀ x : Str, ∀ st : Stmt, hD x st ∈ fn → PySem.W.keepIn K (.ref (He.ga K x)) = true := fun x st hx => by
    obtain ⟨fd, F⟩ := d.defs hx
    exact F.kp
  have FI : ∃ fd, Fun K "__init__" "Refused.__init__" s_Rinit (fI K) fd := by
    obtain ⟨fd, F⟩ := d.def_ 0 (d := fnR) rfl
    exact ⟨fd, fun_of F⟩
  have mem : ∀ {f : He.Fa} (i : Nat), fa[i]? = some f → f ∈ fa := fun i h => List.mem_of_getElem? h
  have memD : ∀ {f : He.DefD} (i : Nat), fn[i]? = some f → f ∈ fn := fun i h => List.mem_of_getElem? h
  exact {
    n_ValueError := He.free_ok X G (fs (mem 42 rfl))
    n_bool := He.free_ok X G (fs (mem 43 rfl))
    n_enumerate := He.free_ok X G (fs (mem 44 rfl))
    n_int := He.free_ok X G (fs (mem 45 rfl))
    n_isinstance := He.free_ok X G (fs (mem 46 rfl))
    n_len := He.free_ok X G (fs (mem 47 rfl))
    n_list := He.free_ok X G (fs (mem 48 rfl))
    n_max := He.free_ok X G (fs (mem 49 rfl))
    n_min := He.free_ok X G (fs (mem 50 rfl))
    n_range := He.free_ok X G (fs (mem 51 rfl))
    n_str := He.free_ok X G (fs (mem 52 rfl))
    n_tuple := He.free_ok X G (fs (mem 53 rfl))
    i_PRIME := He.int_ok X G (fs (mem 54 rfl))
    i_MOST_NUMBERS := He.int_ok X G (fs (mem 55 rfl))
    g_Refused := gl _ (mem 38 rfl)
    g_BadResidue := gl _ (mem 39 rfl)
    g_BadPoly := gl _ (mem 40 rfl)
    g_Zero := gl _ (mem 41 rfl)
    g_is_residue := gl _ (mem 0 rfl)
    F_is_residue := df "is_residue" s_is_residue (memD 1 rfl)
    k_is_residue := kp "is_residue" s_is_residue (memD 1 rfl)
    g_wrong_residues := gl _ (mem 1 rfl)
    F_wrong_residues := df "wrong_residues" s_wrong_residues (memD 2 rfl)
    k_wrong_residues := kp "wrong_residues" s_wrong_residues (memD 2 rfl)
    g_power := gl _ (mem 2 rfl)
    F_power := df "power" s_power (memD 3 rfl)
    k_power := kp "power" s_power (memD 3 rfl)
    g_inverse_of := gl _ (mem 3 rfl)
    F_inverse_of := df "inverse_of" s_inverse_of (memD 4 rfl)
    k_inverse_of := kp "inverse_of" s_inverse_of (memD 4 rfl)
    g_value_at := gl _ (mem 4 rfl)
    F_value_at := df "value_at" s_value_at (memD 5 rfl)
    k_value_at := kp "value_at" s_value_at (memD 5 rfl)
    g_trimmed := gl _ (mem 5 rfl)
    F_trimmed := df "trimmed" s_trimmed (memD 6 rfl)
    k_trimmed := kp "trimmed" s_trimmed (memD 6 rfl)
    g_product_of := gl _ (mem 6 rfl)
    F_product_of := df "product_of" s_product_of (memD 7 rfl)
    k_product_of := kp "product_of" s_product_of (memD 7 rfl)
    g_quotient_of := gl _ (mem 7 rfl)
    F_quotient_of := df "quotient_of" s_quotient_of (memD 8 rfl)
    k_quotient_of := kp "quotient_of" s_quotient_of (memD 8 rfl)
    g_made_poly := gl _ (mem 8 rfl)
    F_made_poly := df "made_poly" s_made_poly (memD 9 rfl)
    k_made_poly := kp "made_poly" s_made_poly (memD 9 rfl)
    g_value := gl _ (mem 9 rfl)
    F_value := df "value" s_value (memD 10 rfl)
    k_value := kp "value" s_value (memD 10 rfl)
    g_times := gl _ (mem 10 rfl)
    F_times := df "times" s_times (memD 11 rfl)
    k_times := kp "times" s_times (memD 11 rfl)
    g_quotient := gl _ (mem 11 rfl)
    F_quotient := df "quotient" s_quotient (memD 12 rfl)
    k_quotient := kp "quotient" s_quotient (memD 12 rfl)
    g_law_pool := gl _ (mem 12 rfl)
    F_law_pool := df "_law_pool" s_law_pool (memD 13 rfl)
    k_law_pool := kp "_law_pool" s_law_pool (memD 13 rfl)
    g_law_take := gl _ (mem 13 rfl)
    F_law_take := df "_law_take" s_law_take (memD 14 rfl)
    k_law_take := kp "_law_take" s_law_take (memD 14 rfl)
    g_law_one := gl _ (mem 14 rfl)
    F_law_one := df "_law_one" s_law_one (memD 15 rfl)
    k_law_one := kp "_law_one" s_law_one (memD 15 rfl)
    g_law_yv_is_whole := gl _ (mem 15 rfl)
    F_law_yv_is_whole := df "_law_yv_is_whole" s_law_yv_is_whole (memD 16 rfl)
    k_law_yv_is_whole := kp "_law_yv_is_whole" s_law_yv_is_whole (memD 16 rfl)
    g_law_yv_is_in := gl _ (mem 16 rfl)
    F_law_yv_is_in := df "_law_yv_is_in" s_law_yv_is_in (memD 17 rfl)
    k_law_yv_is_in := kp "_law_yv_is_in" s_law_yv_is_in (memD 17 rfl)
    g_law_yv_same := gl _ (mem 17 rfl)
    F_law_yv_same := df "_law_yv_same" s_law_yv_same (memD 18 rfl)
    k_law_yv_same := kp "_law_yv_same" s_law_yv_same (memD 18 rfl)
    g_law_yv_is_residue := gl _ (mem 18 rfl)
    F_law_yv_is_residue := df "_law_yv_is_residue" s_law_yv_is_residue (memD 19 rfl)
    k_law_yv_is_residue := kp "_law_yv_is_residue" s_law_yv_is_residue (memD 19 rfl)
    g_law_yv_residue := gl _ (mem 19 rfl)
    F_law_yv_residue := df "_law_yv_residue" s_law_yv_residue (memD 20 rfl)
    k_law_yv_residue := kp "_law_yv_residue" s_law_yv_residue (memD 20 rfl)
    g_law_yv_bent := gl _ (mem 20 rfl)
    F_law_yv_bent := df "_law_yv_bent" s_law_yv_bent (memD 21 rfl)
    k_law_yv_bent := kp "_law_yv_bent" s_law_yv_bent (memD 21 rfl)
    g_law_c2_heard := gl _ (mem 21 rfl)
    F_law_c2_heard := df "_law_c2_heard" s_law_c2_heard (memD 22 rfl)
    k_law_c2_heard := kp "_law_c2_heard" s_law_c2_heard (memD 22 rfl)
    g_law_c2_tells := gl _ (mem 22 rfl)
    F_law_c2_tells := df "_law_c2_tells" s_law_c2_tells (memD 23 rfl)
    k_law_c2_tells := kp "_law_c2_tells" s_law_c2_tells (memD 23 rfl)
    g_law_c2_fault := gl _ (mem 23 rfl)
    F_law_c2_fault := df "_law_c2_fault" s_law_c2_fault (memD 24 rfl)
    k_law_c2_fault := kp "_law_c2_fault" s_law_c2_fault (memD 24 rfl)
    g_law_c2_poly := gl _ (mem 24 rfl)
    F_law_c2_poly := df "_law_c2_poly" s_law_c2_poly (memD 25 rfl)
    k_law_c2_poly := kp "_law_c2_poly" s_law_c2_poly (memD 25 rfl)
    g_law_c2_value := gl _ (mem 25 rfl)
    F_law_c2_value := df "_law_c2_value" s_law_c2_value (memD 26 rfl)
    k_law_c2_value := kp "_law_c2_value" s_law_c2_value (memD 26 rfl)
    g_law_c2_times := gl _ (mem 26 rfl)
    F_law_c2_times := df "_law_c2_times" s_law_c2_times (memD 27 rfl)
    k_law_c2_times := kp "_law_c2_times" s_law_c2_times (memD 27 rfl)
    g_law_c2_cut := gl _ (mem 27 rfl)
    F_law_c2_cut := df "_law_c2_cut" s_law_c2_cut (memD 28 rfl)
    k_law_c2_cut := kp "_law_c2_cut" s_law_c2_cut (memD 28 rfl)
    g_law_c2_power := gl _ (mem 28 rfl)
    F_law_c2_power := df "_law_c2_power" s_law_c2_power (memD 29 rfl)
    k_law_c2_power := kp "_law_c2_power" s_law_c2_power (memD 29 rfl)
    g_law_c2_quotient := gl _ (mem 29 rfl)
    F_law_c2_quotient := df "_law_c2_quotient" s_law_c2_quotient (memD 30 rfl)
    k_law_c2_quotient := kp "_law_c2_quotient" s_law_c2_quotient (memD 30 rfl)
    g_law_c2_forms_right := gl _ (mem 30 rfl)
    F_law_c2_forms_right := df "_law_c2_forms_right" s_law_c2_forms_right (memD 31 rfl)
    k_law_c2_forms_right := kp "_law_c2_forms_right" s_law_c2_forms_right (memD 31 rfl)
    g_law_c2_products_right := gl _ (mem 31 rfl)
    F_law_c2_products_right := df "_law_c2_products_right" s_law_c2_products_right (memD 32 rfl)
    k_law_c2_products_right := kp "_law_c2_products_right" s_law_c2_products_right (memD 32 rfl)
    g_law_c2_other_right := gl _ (mem 32 rfl)
    F_law_c2_other_right := df "_law_c2_other_right" s_law_c2_other_right (memD 33 rfl)
    k_law_c2_other_right := kp "_law_c2_other_right" s_law_c2_other_right (memD 33 rfl)
    g_law_c2_at_right := gl _ (mem 33 rfl)
    F_law_c2_at_right := df "_law_c2_at_right" s_law_c2_at_right (memD 34 rfl)
    k_law_c2_at_right := kp "_law_c2_at_right" s_law_c2_at_right (memD 34 rfl)
    g_law_c2_quotients_right := gl _ (mem 34 rfl)
    F_law_c2_quotients_right := df "_law_c2_quotients_right" s_law_c2_quotients_right (memD 35 rfl)
    k_law_c2_quotients_right := kp "_law_c2_quotients_right" s_law_c2_quotients_right (memD 35 rfl)
    g_law_c2_refused_right := gl _ (mem 35 rfl)
    F_law_c2_refused_right := df "_law_c2_refused_right" s_law_c2_refused_right (memD 36 rfl)
    k_law_c2_refused_right := kp "_law_c2_refused_right" s_law_c2_refused_right (memD 36 rfl)
    g_law_c2_hand_right := gl _ (mem 36 rfl)
    F_law_c2_hand_right := df "_law_c2_hand_right" s_law_c2_hand_right (memD 37 rfl)
    k_law_c2_hand_right := kp "_law_c2_hand_right" s_law_c2_hand_right (memD 37 rfl)
    g_law := gl _ (mem 37 rfl)
    F_law := df "law" s_law (memD 38 rfl)
    k_law := kp "law" s_law (memD 38 rfl)
    FI := FI
    vI := vI.1
    tI := vI.2
    eA := fun x hx => errB_ok o1 (e2 x hx).1
    gA := fun x hx => PySem.W.mg_of X G (He.eqO_ok (He.ba (e2 x hx).2).1)
    xA := fun x hx => of_decide_eq_true (He.ba (He.ba (e2 x hx).2).2).1
    kA := fun x hx y hy => of_decide_eq_true (List.all_eq_true.mp (He.ba (He.ba (e2 x hx).2).2).2 y hy)
    nd := of_decide_eq_true o3 }
theorem law_atK (hden : ∀ ns : List Int, ns.length ≤ 63 → (∀ z ∈ ns, Builtin.Int.intBits z ≤ 1048576) → ∃ ps, d_law [.scr ns] = .ok (.bl true) ps) (w : World) (mg : Str → Option Value) (fa' : Addr) (h : Heap) (Y : hk.says w h) (G : h.Ns mainGlobals mg) (hmg : mg ("law" : Str) = some (.ref fa')) :
    ∃ K : PySem.W.Frag, K.In h ∧ LamX.LawAtS PySem.Challenge.rw_liesborne_k02_polys_at_work w K (L2N.CX (PySem.Challenge.rw_liesborne_k02_polys_at_work).prog w) 13 63 "script" mg fa' h := by
  obtain ⟨K, KX, c⟩ := Y
  have W := facts KX G c
  have e := hmg.symm.trans W.g_law
  cases e
  obtain ⟨fd, F⟩ := W.F_law
  refine ⟨K, KX, law_at (T := TT K) (LC := 5) (fd := fd) (cs := tf.map fun p => He.cT K p) (den := d_law) (fun p hp => ?_) (fun p hp => ?_) (fun p hp => ?_) (fun s u => ?_) (fun p hp => ?_) hden fun base h1 h2 h3 => ?_⟩
  · obtain ⟨q, hq, rfl⟩ := List.mem_map.mp hp
    exact c.empty q hq
  · obtain ⟨q, hq, rfl⟩ := List.mem_map.mp hp
    exact c.out q hq
  · obtain ⟨q, hq, rfl⟩ := List.mem_map.mp hp
    exact PySem.W.codeHd_of_K KX (c.hd q hq)
  · obtain ⟨oc, od, kV, doc, pm, an, cdv, ct, osl, rfl, lk, hc⟩ := F.ex
    exact .of_eq rfl
  · obtain ⟨q, hq, rfl⟩ := List.mem_map.mp hp
    exact List.mem_map.mpr ⟨He.cT K q, List.mem_map.mpr ⟨q, hq, rfl⟩, rfl⟩
  · exact a_law ⟨W, fun p hp => h3 _ (List.mem_map.mpr ⟨p, hp, rfl⟩)⟩ F
end Law
end

section
set_option Elab.async false
set_option linter.all false
set_option maxRecDepth 100000
set_option maxHeartbeats 1000000
namespace Law
open Y
/-! ### a thing is the same as itself -/
abbrev smT : Den Bool := tst (bin neD (nm 2) (dsp (.lst true) (anil)))
abbrev smF : Den Hdl := dsp .tup (acons (bin ixD (nm 3) (nm 6)) (acons (bin ixD (nm 4) (nm 6)) (anil)))
abbrev smB (g_law_yv_is_whole : List D → Rt) : SDen := sq (sAsg (runL popL 2 []) (gU 2 (gC (gN 3) (gC (gN 4) (gNo)))))
    (sq (sIf (tst (bin isND (nm 4) (cst .non))) (sSet 5 (bin isND (nm 3) (cst .non))) (sIf (tst (uno (isiD "bool") (nm 4))) (sSet 5 (andV (uno (isiD "bool") (nm 3)) (bin eqD (nm 3) (nm 4)))) (sIf (tst (uno (isiD "int") (nm 4))) (sSet 5 (andV (callD g_law_yv_is_whole (acons (nm 3) (anil))) (bin eqD (nm 3) (nm 4)))) (sIf (tst (uno (isiD "str") (nm 4))) (sSet 5 (andV (uno (isiD "str") (nm 3)) (bin eqD (nm 3) (nm 4)))) (sq (sSet 5 (ifE (tst (uno (isiD "tuple") (nm 4))) (uno (isiD "tuple") (nm 3)) (uno (isiD "list") (nm 3))))
    (sq (sSet 5 (andV (vl 5) (bin eqD (uno lenD (nm 3)) (uno lenD (nm 4)))))
    (sExpr (mtD extL 2 (acons (ifE (tst (nm 5)) (lcE (rgS1 (uno lenD (nm 4))) (gN 6) (yesT) smF [6]) (dsp (.lst true) (anil))) (anil))))))))))
    (sIf (notT (tst (nm 5))) (sRet (cst (.bl false))) (sNil)))
abbrev pr (d : D) : D := .tup [d, d]
section
variable {g : List D → Rt} {h o a3 a4 a5 a6 : D} {xs : List D}
theorem sm_int (i : Int) (c1 : g [.int i] = .ok (.bl true) [.int i]) : smB g [h, o, .lst true (xs ++ [pr (.int i)]), a3, a4, a5, a6] = .nx [h, o, .lst true xs, .int i, .int i, .bl true, a6] := by
  simp [smB, pr, nk0, fnD, outD, sq, sRet, sIf, sNil, sExpr, sSet, sPar, sPar3, sAsg, sSto, putAt, onE, onT, andV, orV, notV, andT, orT, notT, ifE, tst, Rz.bind, nm, vl, cst, bin, uno, chn, dsp, acons, anil, callD, okA, lendD, wbD, runL, mtD, appL, extL, popL, Hdl.get, valsOf, D.nks, D.nk, D.pl, D.pls, D.frz, D.frzs, nkU, isiD, isiB, iop, iopC, ltD, leD, gtD, geD, addD, subD, mulD, modD, fdivD, negD, modC, isND, notND, isNB, ixD, plO, gN, gT, gU, gC, gNo, lamD, frzAll, cloOf, onlyD, fz, astar, sRaise, eqD, eqB, c1]
theorem sm_str (i : PySem.Str) : smB g [h, o, .lst true (xs ++ [pr (.str i)]), a3, a4, a5, a6] = .nx [h, o, .lst true xs, .str i, .str i, .bl true, a6] := by
  simp [smB, pr, nk0, fnD, outD, sq, sRet, sIf, sNil, sExpr, sSet, sPar, sPar3, sAsg, sSto, putAt, onE, onT, andV, orV, notV, andT, orT, notT, ifE, tst, Rz.bind, nm, vl, cst, bin, uno, chn, dsp, acons, anil, callD, okA, lendD, wbD, runL, mtD, appL, extL, popL, Hdl.get, valsOf, D.nks, D.nk, D.pl, D.pls, D.frz, D.frzs, nkU, isiD, isiB, iop, iopC, ltD, leD, gtD, geD, addD, subD, mulD, modD, fdivD, negD, modC, isND, notND, isNB, ixD, plO, gN, gT, gU, gC, gNo, lamD, frzAll, cloOf, onlyD, fz, astar, sRaise, eqD, eqB]
theorem eq_bl (b : Bool) : eqD (.bl b) (.bl b) = some (.bl true) := by cases b <;> rfl
theorem sm_bl (b : Bool) : smB g [h, o, .lst true (xs ++ [pr (.bl b)]), a3, a4, a5, a6] = .nx [h, o, .lst true xs, .bl b, .bl b, .bl true, a6] := by
  simp [smB, pr, nk0, fnD, outD, sq, sRet, sIf, sNil, sExpr, sSet, sPar, sPar3, sAsg, sSto, putAt, onE, onT, andV, orV, notV, andT, orT, notT, ifE, tst, Rz.bind, nm, vl, cst, bin, uno, chn, dsp, acons, anil, callD, okA, lendD, wbD, runL, mtD, appL, extL, popL, Hdl.get, valsOf, D.nks, D.nk, D.pl, D.pls, D.frz, D.frzs, nkU, isiD, isiB, iop, iopC, ltD, leD, gtD, geD, addD, subD, mulD, modD, fdivD, negD, modC, isND, notND, isNB, ixD, plO, gN, gT, gU, gC, gNo, lamD, frzAll, cloOf, onlyD, fz, astar, sRaise, eq_bl]
theorem sm_non : smB g [h, o, .lst true (xs ++ [pr .non]), a3, a4, a5, a6] = .nx [h, o, .lst true xs, .non, .non, .bl true, a6] := by
  simp [smB, pr, nk0, fnD, outD, sq, sRet, sIf, sNil, sExpr, sSet, sPar, sPar3, sAsg, sSto, putAt, onE, onT, andV, orV, notV, andT, orT, notT, ifE, tst, Rz.bind, nm, vl, cst, bin, uno, chn, dsp, acons, anil, callD, okA, lendD, wbD, runL, mtD, appL, extL, popL, Hdl.get, valsOf, D.nks, D.nk, D.pl, D.pls, D.frz, D.frzs, nkU, isiD, isiB, iop, iopC, ltD, leD, gtD, geD, addD, subD, mulD, modD, fdivD, negD, modC, isND, notND, isNB, ixD, plO, gN, gT, gU, gC, gNo, lamD, frzAll, cloOf, onlyD, fz, astar, sRaise]
theorem lc_pairs {ds : List D} {q s5 : D} (hq : ∀ i : Nat, i < ds.length → ixD q (.int (i : Int)) = ds[i]?) : ∀ (js : List Nat) (acc : List D) (s6 : D), (∀ j ∈ js, j < ds.length) → acc.length + js.length ≤ 100000 →
    ∃ s6', lcL (gN 6) yesT smF [6] (js.map fun j => .int (0 + (j : Nat) * 1)) acc [h, o, a3, q, q, s5, s6] = .ok (acc ++ js.map fun j => pr (ds[j]?.getD .un)) [h, o, a3, q, q, s5, s6']
  | [], acc, s6, hj, hl => ⟨s6, by simp [lcL]⟩
  | j :: js, acc, s6, hj, hl => by
    have hj0 : j < ds.length := hj j List.mem_cons_self
    have e1 := hq j hj0
    rw [List.getElem?_eq_getElem hj0] at e1
    have hl0 : acc.length ≤ 100000 := by simp at hl; omega
    obtain ⟨s6', ih⟩ := lc_pairs hq js (acc ++ [pr ds[j]]) (.int (j : Int)) (fun k hk => hj k (List.mem_cons_of_mem _ hk)) (by simp at hl ⊢; omega)
    refine ⟨s6', ?_⟩
    rw [List.append_assoc] at ih
    have e2 : [pr ds[j]] ++ js.map (fun j => pr (ds[j]?.getD .un)) = (j :: js).map fun j => pr (ds[j]?.getD .un) := by
      simp [List.getElem?_eq_getElem hj0]
    rw [e2] at ih
    rw [← ih, List.map_cons]
    conv => lhs; unfold lcL
    have e3 : (0 : Int) + (j : Int) * 1 = (j : Int) := by omega
    have e4 : ∀ x : D, (dsp .tup (acons (bin ixD (nm 3) (nm 6)) (acons (bin ixD (nm 4) (nm 6)) (anil)))) [h, o, a3, q, q, s5, .int (j : Int)] = (match q with
      | .un => .bad
      | _ => .ok (.val (pr ds[j])) [h, o, a3, q, q, s5, .int (j : Int)]) := fun x => by
      cases q <;> simp [dsp, acons, bin, nm, anil, Rz.bind, Hdl.get, e1, valsOf, pr]
    have nq : q ≠ .un := fun z => by
      rw [z] at e1
      cases e1
    have e5 : smF [h, o, a3, q, q, s5, .int (j : Int)] = .ok (.val (pr ds[j])) [h, o, a3, q, q, s5, .int (j : Int)] := by
      rw [show smF [h, o, a3, q, q, s5, .int (j : Int)] = _ from e4 .un]
      cases q <;> first | rfl | exact absurd rfl nq
    simp only [wipeD, gN, List.set, e3, yesT, e5, hl0, if_true]
theorem range_pairs (ds : List D) : (List.range ds.length).map (fun j => pr (ds[j]?.getD .un)) = ds.map pr := by
  apply List.ext_getElem (by simp)
  intro i h1 h2
  simp at h1 h2 ⊢
  simp [List.getElem?_eq_getElem h2]
theorem lc_all {ds : List D} {q s5 s6 : D} (hq : ∀ i : Nat, i < ds.length → ixD q (.int (i : Int)) = ds[i]?) (hlen : lenD q = some (.int ds.length)) (hl : ds.length ≤ 1000) :
    ∃ s6', lcE (rgS1 (uno lenD (nm 4))) (gN 6) (yesT) smF [6] [h, o, a3, q, q, s5, s6] = .ok (.val (.lst true (ds.map pr))) [h, o, a3, q, q, s5, s6'] := by
  obtain ⟨s6', e⟩ := lc_pairs (h := h) (o := o) (a3 := a3) (s5 := s5) hq (List.range ds.length) [] s6 (fun j hj => List.mem_range.mp hj) (by simp; omega)
  rw [range_pairs, List.nil_append] at e
  have nq : q ≠ .un := fun z => by
    rw [z] at hlen
    cases hlen
  have e1 : rgS1 (uno lenD (nm 4)) [h, o, a3, q, q, s5, s6] = .ok (rgD 0 1 ds.length) [h, o, a3, q, q, s5, s6] := by
    have e0 : uno lenD (nm 4) [h, o, a3, q, q, s5, s6] = .ok (.val (.int ds.length)) [h, o, a3, q, q, s5, s6] := by
      cases q <;> first | exact absurd rfl nq | simp [uno, nm, Rz.bind, Hdl.get, hlen]
    unfold rgS1
    rw [e0]
    have e2 : intOf (.val (.int (ds.length : Int))) [h, o, a3, q, q, s5, s6] = some (ds.length : Int) := by
      have : inRg (ds.length : Int) = true := by
        unfold inRg
        rw [Bool.and_eq_true]
        exact ⟨decide_eq_true (by omega), decide_eq_true (by omega)⟩
      show (if inRg (ds.length : Int) = true then _ else _) = _
      rw [if_pos this]
    simp only [Rz.bind, e2, Int.toNat_natCast]
  have e3 : rgD 0 1 ds.length = (List.range ds.length).map fun j => .int (0 + (j : Nat) * 1) := rfl
  unfold lcE
  rw [e1]
  dsimp only
  rw [e3, e]
  exact ⟨if s6.pl then s6 else .un, rfl⟩
theorem eq_len (n : Nat) : eqD (.int n) (.int n) = some (.bl true) := by simp [eqD, eqB]
theorem sm_tup {ds : List D} (hd : gds ds = true) (hl : ds.length ≤ 1000) (hx : xs.length ≤ 50000) : ∃ s6', smB g [h, o, .lst true (xs ++ [pr (.tup ds)]), a3, a4, a5, a6] = .nx [h, o, .lst true (xs ++ ds.map pr), .tup ds, .tup ds, .bl true, s6'] := by
  have pl : ∀ d ∈ ds, d.pl = true := fun d hd' => gd_pl (gds_at hd hd')
  obtain ⟨s6', e⟩ := lc_all (h := h) (o := o) (a3 := .lst true xs) (q := .tup ds) (s5 := .bl true) (s6 := a6) (ds := ds) (fun i hi => by
    show plO (L2.atI ds (i : Int)) = _
    rw [L2.atI_nat (List.getElem?_eq_getElem hi), List.getElem?_eq_getElem hi]
    simp [plO, pl _ (List.getElem_mem hi)]) rfl hl
  refine ⟨s6', ?_⟩
  have hx2 : xs.length + ds.length ≤ 100000 := by omega
  simp [smB, pr, nk0, fnD, outD, sq, sRet, sIf, sNil, sExpr, sSet, sPar, sPar3, sAsg, sSto, putAt, onE, onT, andV, orV, notV, andT, orT, notT, ifE, tst, Rz.bind, nm, vl, cst, bin, uno, chn, dsp, acons, anil, callD, okA, lendD, wbD, runL, mtD, appL, extL, popL, Hdl.get, valsOf, D.nks, D.nk, D.pl, D.pls, D.frz, D.frzs, nkU, isiD, isiB, iop, iopC, ltD, leD, gtD, geD, addD, subD, mulD, modD, fdivD, negD, modC, isND, notND, isNB, ixD, plO, gN, gT, gU, gC, gNo, lamD, frzAll, cloOf, onlyD, fz, astar, sRaise, eqD, eqB, lenD, e, hx2]
theorem sm_lst {ds : List D} (hd : gds ds = true) (hl : ds.length ≤ 1000) (hx : xs.length ≤ 50000) : ∃ s6', smB g [h, o, .lst true (xs ++ [pr (.lst false ds)]), a3, a4, a5, a6] = .nx [h, o, .lst true (xs ++ ds.map pr), .lst false ds, .lst false ds, .bl true, s6'] := by
  have pl : ∀ d ∈ ds, d.pl = true := fun d hd' => gd_pl (gds_at hd hd')
  obtain ⟨s6', e⟩ := lc_all (h := h) (o := o) (a3 := .lst true xs) (q := .lst false ds) (s5 := .bl true) (s6 := a6) (ds := ds) (fun i hi => by
    show plO (L2.atI ds (i : Int)) = _
    rw [L2.atI_nat (List.getElem?_eq_getElem hi), List.getElem?_eq_getElem hi]
    simp [plO, pl _ (List.getElem_mem hi)]) rfl hl
  refine ⟨s6', ?_⟩
  have hx2 : xs.length + ds.length ≤ 100000 := by omega
  simp [smB, pr, nk0, fnD, outD, sq, sRet, sIf, sNil, sExpr, sSet, sPar, sPar3, sAsg, sSto, putAt, onE, onT, andV, orV, notV, andT, orT, notT, ifE, tst, Rz.bind, nm, vl, cst, bin, uno, chn, dsp, acons, anil, callD, okA, lendD, wbD, runL, mtD, appL, extL, popL, Hdl.get, valsOf, D.nks, D.nk, D.pl, D.pls, D.frz, D.frzs, nkU, isiD, isiB, iop, iopC, ltD, leD, gtD, geD, addD, subD, mulD, modD, fdivD, negD, modC, isND, notND, isNB, ixD, plO, gN, gT, gU, gC, gNo, lamD, frzAll, cloOf, onlyD, fz, astar, sRaise, eqD, eqB, lenD, e, hx2]
theorem sm_test {ts : List D} : smT [h, o, .lst true (ts.map pr), a3, a4, a5, a6] = .ok (!ts.isEmpty) [h, o, .lst true (ts.map pr), a3, a4, a5, a6] := by
  cases ts with
  | nil =>
    have : neD (.lst true ([] : List D)) (.lst true []) = some (.bl false) := rfl
    simp [smT, nk0, fnD, outD, sq, sRet, sIf, sNil, sExpr, sSet, sPar, sPar3, sAsg, sSto, putAt, onE, onT, andV, orV, notV, andT, orT, notT, ifE, tst, Rz.bind, nm, vl, cst, bin, uno, chn, dsp, acons, anil, callD, okA, lendD, wbD, runL, mtD, appL, extL, popL, Hdl.get, valsOf, D.nks, D.nk, D.pl, D.pls, D.frz, D.frzs, nkU, isiD, isiB, iop, iopC, ltD, leD, gtD, geD, addD, subD, mulD, modD, fdivD, negD, modC, isND, notND, isNB, ixD, plO, gN, gT, gU, gC, gNo, lamD, frzAll, cloOf, onlyD, fz, astar, sRaise, this]
  | cons t ts =>
    have : neD (.lst true ((t :: ts).map pr)) (.lst true []) = some (.bl true) := by simp [neD, eqB]
    have e2 : ((t :: ts).map pr) = pr t :: ts.map pr := rfl
    rw [e2] at this
    simp [smT, nk0, fnD, outD, sq, sRet, sIf, sNil, sExpr, sSet, sPar, sPar3, sAsg, sSto, putAt, onE, onT, andV, orV, notV, andT, orT, notT, ifE, tst, Rz.bind, nm, vl, cst, bin, uno, chn, dsp, acons, anil, callD, okA, lendD, wbD, runL, mtD, appL, extL, popL, Hdl.get, valsOf, D.nks, D.nk, D.pl, D.pls, D.frz, D.frzs, nkU, isiD, isiB, iop, iopC, ltD, leD, gtD, geD, addD, subD, mulD, modD, fdivD, negD, modC, isND, notND, isNB, ixD, plO, gN, gT, gU, gC, gNo, lamD, frzAll, cloOf, onlyD, fz, astar, sRaise, this]
theorem sm_loop (c1 : ∀ i : Int, g [.int i] = .ok (.bl true) [.int i]) : ∀ (m : Nat) (ts : List D) (a3 a4 a5 a6 : D), gds ts = true → szs ts < m → szs ts ≤ 1000 → ∃ b3 b4 b5 b6, sWhile m smT (smB g) [h, o, .lst true (ts.map pr), a3, a4, a5, a6] = .nx [h, o, .lst true [], b3, b4, b5, b6]
  | 0, ts, a3, a4, a5, a6, hg, hm, hz => by omega
  | m + 1, ts, a3, a4, a5, a6, hg, hm, hz => by
    rcases List.eq_nil_or_concat ts with rfl | ⟨us, d, rfl⟩
    · exact ⟨a3, a4, a5, a6, sWhile_stop (sm_test (ts := []))⟩
    · rw [List.concat_eq_append] at hg hm hz ⊢
      rw [gds_append, Bool.and_eq_true] at hg
      have hd : gd d = true := by
        have : (gd d && true) = true := hg.2
        simpa using this
      have es : szs (us ++ [d]) = szs us + sz d := by rw [szs_append]; simp [szs]
      rw [es] at hm hz
      have em : (us ++ [d]).map pr = us.map pr ++ [pr d] := by simp
      have ht := sm_test (h := h) (o := o) (a3 := a3) (a4 := a4) (a5 := a5) (a6 := a6) (ts := us ++ [d])
      have ne : (!(us ++ [d]).isEmpty) = true := by simp
      rw [ne, em] at ht
      rw [em]
      have sp := sz_pos d
      have fin : ∀ (vs : List D) (b3 b4 b5 b6 : D), gds vs = true → szs vs < sz d → smB g [h, o, .lst true (us.map pr ++ [pr d]), a3, a4, a5, a6] = .nx [h, o, .lst true ((us ++ vs).map pr), b3, b4, b5, b6] →
          ∃ b3 b4 b5 b6, sWhile (m + 1) smT (smB g) [h, o, .lst true (us.map pr ++ [pr d]), a3, a4, a5, a6] = .nx [h, o, .lst true [], b3, b4, b5, b6] := fun vs b3 b4 b5 b6 hv hs e => by
        rw [sWhile_go ht e]
        exact sm_loop c1 m (us ++ vs) b3 b4 b5 b6 (by rw [gds_append, hg.1, hv]; rfl) (by rw [szs_append]; omega) (by rw [szs_append]; omega)
      have lu := szs_len us
      cases d with
      | un => cases hd
      | scr _ => cases hd
      | tok _ => cases hd
      | tex _ _ => cases hd
      | dct _ _ _ => cases hd
      | non => exact fin [] _ _ _ _ rfl (by simp [szs, sz]) (by rw [List.append_nil]; exact sm_non)
      | bl b => exact fin [] _ _ _ _ rfl (by simp [szs, sz]) (by rw [List.append_nil]; exact sm_bl b)
      | int i => exact fin [] _ _ _ _ rfl (by simp [szs, sz]) (by rw [List.append_nil]; exact sm_int i (c1 i))
      | str s => exact fin [] _ _ _ _ rfl (by simp [szs, sz]) (by rw [List.append_nil]; exact sm_str s)
      | tup ds =>
        have ld := szs_len ds
        have sd : sz (.tup ds) = szs ds + 1 := by simp [sz]
        obtain ⟨s6', e⟩ := sm_tup (g := g) (h := h) (o := o) (a3 := a3) (a4 := a4) (a5 := a5) (a6 := a6) (xs := us.map pr) (show gds ds = true from hd) (by omega) (by simp; omega)
        exact fin ds _ _ _ _ hd (by omega) (by rw [e, List.map_append])
      | lst b ds =>
        cases b with
        | true => cases hd
        | false =>
          have ld := szs_len ds
          have sd : sz (.lst false ds) = szs ds + 1 := by simp [sz]
          obtain ⟨s6', e⟩ := sm_lst (g := g) (h := h) (o := o) (a3 := a3) (a4 := a4) (a5 := a5) (a6 := a6) (xs := us.map pr) (show gds ds = true from hd) (by omega) (by simp; omega)
          exact fin ds _ _ _ _ hd (by omega) (by rw [e, List.map_append])
end
theorem whole_int (i : Int) : d_law_yv_is_whole [.int i] = .ok (.bl true) [.int i] := by
  simp [d_law_yv_is_whole, b_law_yv_is_whole, fx_law_yv_is_whole, nk0, fnD, outD, sq, sRet, sIf, sNil, sExpr, sSet, sPar, sPar3, sAsg, sSto, putAt, onE, onT, andV, orV, notV, andT, orT, notT, ifE, tst, Rz.bind, nm, vl, cst, bin, uno, chn, dsp, acons, anil, callD, okA, lendD, wbD, runL, mtD, appL, extL, popL, Hdl.get, valsOf, D.nks, D.nk, D.pl, D.pls, D.frz, D.frzs, nkU, isiD, isiB, iop, iopC, ltD, leD, gtD, geD, addD, subD, mulD, modD, fdivD, negD, modC, isND, notND, isNB, ixD, plO, gN, gT, gU, gC, gNo, lamD, frzAll, cloOf, onlyD, fz, astar, sRaise]
theorem o_same {d b3 b4 b5 b6 : D} {g : List D → Rt} (hd : gd d = true) (hw : sWhile 1000 smT (smB g) [d, d, .lst true [pr d], .un, .un, .un, .un] = .nx [d, d, .lst true [], b3, b4, b5, b6]) : nk0 (fnD 2 7 fx_law_yv_same (B_law_yv_same g)) [d, d] = .ok (.bl true) [d, d] := by
  have f := gd_frz hd
  have n := gd_nk hd
  have hb : B_law_yv_same g [d, d, .un, .un, .un, .un, .un] = .rt (.bl true) [d, d, .lst true [], b3, b4, b5, b6] := by
    show sq (sSet 2 (dsp (.lst true) (acons (dsp .tup (acons (vl 0) (acons (vl 1) (anil)))) (anil)))) (sq (sWhile 1000 smT (smB g)) (sRet (cst (.bl true)))) [d, d, .un, .un, .un, .un, .un] = _
    have e0 : sSet 2 (dsp (.lst true) (acons (dsp .tup (acons (vl 0) (acons (vl 1) (anil)))) (anil))) [d, d, .un, .un, .un, .un, .un] = .nx [d, d, .lst true [pr d], .un, .un, .un, .un] := by
      cases d <;> first | (cases hd; done) | simp [nk0, fnD, outD, sq, sRet, sIf, sNil, sExpr, sSet, sPar, sPar3, sAsg, sSto, putAt, onE, onT, andV, orV, notV, andT, orT, notT, ifE, tst, Rz.bind, nm, vl, cst, bin, uno, chn, dsp, acons, anil, callD, okA, lendD, wbD, runL, mtD, appL, extL, popL, Hdl.get, valsOf, D.nks, D.nk, D.pl, D.pls, D.frz, D.frzs, nkU, isiD, isiB, iop, iopC, ltD, leD, gtD, geD, addD, subD, mulD, modD, fdivD, negD, modC, isND, notND, isNB, ixD, plO, gN, gT, gU, gC, gNo, lamD, frzAll, cloOf, onlyD, fz, astar, sRaise, pr, f]
      all_goals (simp [D.frz] at f; simp [f])
    unfold sq
    rw [e0]
    simp only [hw]
    rfl
  have hu : nkU d = true := by
    cases d <;> first | exact n | rfl
  have h4 : fnD 2 7 fx_law_yv_same (B_law_yv_same g) [d, d] = .ok (.bl true) [d, d] := by
    unfold fnD
    rw [if_pos (by rfl)]
    show (match B_law_yv_same g [d, d, .un, .un, .un, .un, .un] with
      | .nx τ => _
      | .rt d τ => _
      | .ex n d _ => _
      | _ => _) = _
    rw [hb]
    simp [nk0, fnD, outD, sq, sRet, sIf, sNil, sExpr, sSet, sPar, sPar3, sAsg, sSto, putAt, onE, onT, andV, orV, notV, andT, orT, notT, ifE, tst, Rz.bind, nm, vl, cst, bin, uno, chn, dsp, acons, anil, callD, okA, lendD, wbD, runL, mtD, appL, extL, popL, Hdl.get, valsOf, D.nks, D.nk, D.pl, D.pls, D.frz, D.frzs, nkU, isiD, isiB, iop, iopC, ltD, leD, gtD, geD, addD, subD, mulD, modD, fdivD, negD, modC, isND, notND, isNB, ixD, plO, gN, gT, gU, gC, gNo, lamD, frzAll, cloOf, onlyD, fz, astar, sRaise, fx_law_yv_same]
  unfold nk0
  rw [if_pos (by simp [D.nks, n]), h4]
  simp [D.nk, hu]
theorem same_refl {d : D} (hd : gd d = true) (hz : sz d ≤ 900) : d_law_yv_same [d, d] = .ok (.bl true) [d, d] := by
  obtain ⟨b3, b4, b5, b6, e⟩ := sm_loop (h := d) (o := d) (g := d_law_yv_is_whole) whole_int 1000 [d] .un .un .un .un (by simp [gds, hd]) (by simp [szs]; omega) (by simp [szs]; omega)
  exact o_same hd e
end Law
end

section
set_option Elab.async false
set_option linter.all false
set_option maxRecDepth 100000
set_option maxHeartbeats 4000000
namespace Law
open Y
/-! ### the jar -/
theorem mulC_of {a b : Nat} {i j : Int} (hi : i.natAbs < 2 ^ a) (hj : j.natAbs < 2 ^ b) (h : a + b < 1000000) : mulC i j = true := by
  have l : ∀ {n k : Nat}, n < 2 ^ k → n.log2 ≤ k := fun {n k} hn => by
    by_cases z : n = 0
    · subst z
      show Nat.log2 0 ≤ k
      have : Nat.log2 0 = 0 := by decide
      omega
    · exact Nat.le_of_lt ((Nat.log2_lt z).mpr hn)
  have h1 := l hi
  have h2 := l hj
  exact decide_eq_true (by omega)
theorem mulC_r {i j : Int} (hi : i.natAbs < 2147483648) (hj : j.natAbs < 2147483648) : mulC i j = true := mulC_of (a := 31) (b := 31) hi hj (by decide)
/-- digits, a stir, a count up to m -/
def Jar (m : Nat) (j : D) : Prop := ∃ d s n : Int, j = .lst true [.int d, .int s, .int n] ∧ 0 ≤ d ∧ 0 ≤ s ∧ s < 2147483647 ∧ 0 ≤ n ∧ n ≤ m
theorem Jar.mono {m m' : Nat} {j : D} (h : Jar m j) (l : m ≤ m') : Jar m' j := by
  obtain ⟨d, s, n, e, h1, h2, h3, h4, h5⟩ := h
  exact ⟨d, s, n, e, h1, h2, h3, h4, by omega⟩
theorem take_pos {d s n k : Int} (hd : 0 < d) (hk : 0 < k) (h9 : fdivC d k = true) : d_law_take [.lst true [.int d, .int s, .int n], .int k] = .ok (.int (d % k)) [.lst true [.int (d / k), .int s, .int n], .int k] := by
  have a0 : ∀ u v w : Int, ixD (.lst true [.int u, .int v, .int w]) (.int 0) = some (.int u) := fun _ _ _ => rfl
  have e4 : L2.ixN 3 0 = some 0 := rfl
  simp [d_law_take, b_law_take, fx_law_take, nk0, fnD, outD, sq, sRet, sIf, sNil, sExpr, sSet, sPar, sPar3, sAsg, sSto, putAt, onE, onT, andV, orV, notV, andT, orT, notT, ifE, tst, Rz.bind, nm, vl, cst, bin, uno, chn, dsp, acons, anil, callD, okA, lendD, wbD, runL, mtD, appL, extL, popL, Hdl.get, valsOf, D.nks, D.nk, D.pl, D.pls, D.frz, D.frzs, nkU, isiD, isiB, iop, iopC, ltD, leD, gtD, geD, addD, subD, mulD, modD, fdivD, negD, modC, isND, notND, isNB, gN, gT, gU, gC, gNo, lamD, frzAll, cloOf, onlyD, fz, astar, sRaise, intD, a0, e4, hd, hk, h9]
theorem take_zero {s n k : Int} (hs : 0 ≤ s ∧ s < 2147483647) (hn : 0 ≤ n ∧ n < 1000000) (hk : 0 < k) : ∃ s' r : Int, 0 ≤ s' ∧ s' < 2147483647 ∧ 0 ≤ r ∧ r < k ∧ d_law_take [.lst true [.int 0, .int s, .int n], .int k] = .ok (.int r) [.lst true [.int 0, .int s', .int (n + 1)], .int k] := by
  have a0 : ∀ u v w : Int, ixD (.lst true [.int u, .int v, .int w]) (.int 0) = some (.int u) := fun _ _ _ => rfl
  have a1 : ∀ u v w : Int, ixD (.lst true [.int u, .int v, .int w]) (.int 1) = some (.int v) := fun _ _ _ => rfl
  have a2 : ∀ u v w : Int, ixD (.lst true [.int u, .int v, .int w]) (.int 2) = some (.int w) := fun _ _ _ => rfl
  have e4 : L2.ixN 3 1 = some 1 := rfl
  have e5 : L2.ixN 3 2 = some 2 := rfl
  obtain ⟨s', hs'⟩ : ∃ s' : Int, s' = (s * 39373 + 7919 * (n + 1) + 7) % 2147483647 := ⟨_, rfl⟩
  have b1 : 0 ≤ s' := by rw [hs']; exact Int.emod_nonneg _ (by omega)
  have b2 : s' < 2147483647 := by rw [hs']; exact Int.emod_lt_of_pos _ (by omega)
  have m1 : mulC s 39373 = true := mulC_r (by omega) (by omega)
  have m2 : mulC 7919 (n + 1) = true := mulC_r (by omega) (by omega)
  have m3 : mulC s' s' = true := mulC_r (by omega) (by omega)
  have f1 : ∀ x : Int, fdivC x 32 = true := fun _ => rfl
  refine ⟨s', (s' * s' % 2147483629 / 32) % k, b1, b2, Int.emod_nonneg _ (by omega), Int.emod_lt_of_pos _ hk, ?_⟩
  simp [d_law_take, b_law_take, fx_law_take, nk0, fnD, outD, sq, sRet, sIf, sNil, sExpr, sSet, sPar, sPar3, sAsg, sSto, putAt, onE, onT, andV, orV, notV, andT, orT, notT, ifE, tst, Rz.bind, nm, vl, cst, bin, uno, chn, dsp, acons, anil, callD, okA, lendD, wbD, runL, mtD, appL, extL, popL, Hdl.get, valsOf, D.nks, D.nk, D.pl, D.pls, D.frz, D.frzs, nkU, isiD, isiB, iop, iopC, ltD, leD, gtD, geD, addD, subD, mulD, modD, fdivD, negD, modC, isND, notND, isNB, gN, gT, gU, gC, gNo, lamD, frzAll, cloOf, onlyD, fz, astar, sRaise, intD, a0, a1, a2, e4, e5, hk, m1, m2, ← hs', m3, f1]
theorem take_jar {j : D} {m : Nat} {k : Int} (h : Jar m j) (hm : m < 900000) (hk : 0 < k) (h9 : k ≤ 1000000000000) : ∃ r j', 0 ≤ r ∧ r < k ∧ Jar (m + 1) j' ∧ d_law_take [j, .int k] = .ok (.int r) [j', .int k] := by
  have h9 : k.natAbs.log2 < 9000 := by
    have h1 : k.natAbs ≤ 1000000000000 := by omega
    have h2 : k.natAbs ≠ 0 := by omega
    exact (Nat.log2_lt h2).mpr (Nat.lt_of_le_of_lt h1 (Nat.lt_of_lt_of_le (show 1000000000000 < 2 ^ 40 by decide) (Nat.pow_le_pow_right (by omega) (by omega))))
  obtain ⟨d, s, n, rfl, h1, h2, h3, h4, h5⟩ := h
  by_cases hd : 0 < d
  · refine ⟨d % k, _, Int.emod_nonneg _ (by omega), Int.emod_lt_of_pos _ hk, ⟨d / k, s, n, rfl, Int.ediv_nonneg h1 (by omega), h2, h3, h4, by omega⟩, take_pos hd hk ?_⟩
    unfold fdivC
    rw [Bool.and_eq_true]
    exact ⟨decide_eq_true hk, decide_eq_true h9⟩
  · have e : d = 0 := by omega
    subst e
    obtain ⟨s', r, b1, b2, b3, b4, e⟩ := take_zero ⟨h2, h3⟩ ⟨h4, by omega⟩ hk
    exact ⟨r, _, b3, b4, ⟨0, s', n + 1, rfl, Int.le_refl _, b1, b2, by omega, by omega⟩, e⟩
/-- .. below a number of things -/
theorem take_nat {j : D} {m n : Nat} (h : Jar m j) (hm : m < 900000) (hk : 0 < n) (h9 : n ≤ 1000000000) : ∃ (r : Nat) (j' : D), r < n ∧ Jar (m + 1) j' ∧ d_law_take [j, .int (n : Int)] = .ok (.int (r : Int)) [j', .int (n : Int)] := by
  obtain ⟨r, j', h1, h2, h3, e⟩ := take_jar h hm (k := (n : Int)) (by omega) (by omega)
  refine ⟨r.toNat, j', by omega, h3, ?_⟩
  rw [e]
  have : ((r.toNat : Nat) : Int) = r := by omega
  rw [this]
theorem ix_nat {o : Bool} {xs : List D} {i : Nat} {d : D} (h : xs[i]? = some d) (hp : d.pl = true) : ixD (.lst o xs) (.int (i : Int)) = some d := by
  show plO (L2.atI xs (i : Int)) = _
  rw [L2.atI_nat h]
  show (if d.pl = true then some d else none) = _
  rw [if_pos hp]
theorem ixt_nat {xs : List D} {i : Nat} {d : D} (h : xs[i]? = some d) (hp : d.pl = true) : ixD (.tup xs) (.int (i : Int)) = some d := by
  show plO (L2.atI xs (i : Int)) = _
  rw [L2.atI_nat h]
  show (if d.pl = true then some d else none) = _
  rw [if_pos hp]
theorem jar_shape {m : Nat} {j : D} (h : Jar m j) : ∃ a b c : Int, j = .lst true [.int a, .int b, .int c] := let ⟨d, s, n, e, _⟩ := h; ⟨d, s, n, e⟩
theorem o_one {a b c a' b' c' r k : Int} {o : Bool} {q : List D} {d : D} {g : List D → Rt} (hq : D.nks q = true) (hp : D.pls q = true) (hl : (q.length : Int) = k) (c1 : g [.lst true [.int a, .int b, .int c], .int k] = .ok (.int r) [.lst true [.int a', .int b', .int c'], .int k]) (hr : ixD (.lst o q) (.int r) = some d) (hd : d.nk = true) :
    nk0 (fnD 2 2 fx_law_one (B_law_one g)) [.lst true [.int a, .int b, .int c], .lst o q] = .ok d [.lst true [.int a', .int b', .int c'], .lst o q] := by
  cases o <;> simp [B_law_one, fx_law_one, nk0, fnD, outD, sq, sRet, sIf, sNil, sExpr, sSet, sPar, sPar3, sAsg, sSto, putAt, onE, onT, andV, orV, notV, andT, orT, notT, ifE, tst, Rz.bind, nm, vl, cst, bin, uno, chn, dsp, acons, anil, callD, okA, lendD, wbD, runL, mtD, appL, extL, popL, Hdl.get, valsOf, D.nks, D.nk, D.pl, D.pls, D.frz, D.frzs, nkU, isiD, isiB, iop, iopC, ltD, leD, gtD, geD, addD, subD, mulD, modD, fdivD, negD, modC, isND, notND, isNB, gN, gT, gU, gC, gNo, lamD, frzAll, cloOf, onlyD, fz, astar, sRaise, lenD, hl, c1, hr, hq, hp, hd]
theorem one_any {j : D} {m : Nat} {o : Bool} {xs : List D} (h : Jar m j) (hm : m < 900000) (h0 : xs ≠ []) (hl : xs.length ≤ 1000000) (hg : gds xs = true) : ∃ v j', v ∈ xs ∧ Jar (m + 1) j' ∧ d_law_one [j, .lst o xs] = .ok v [j', .lst o xs] := by
  have lp : 0 < xs.length := List.length_pos_iff.mpr h0
  obtain ⟨r, j', r1, hj, e⟩ := take_nat h hm lp (by omega)
  obtain ⟨a, b, c, rfl⟩ := jar_shape h
  obtain ⟨a', b', c', rfl⟩ := jar_shape hj
  have hg' := gds_at hg (List.getElem_mem r1)
  exact ⟨xs[r], _, List.getElem_mem r1, hj, o_one (g := d_law_take) (gds_nk hg) (gds_pl hg) rfl e (ix_nat (List.getElem?_eq_getElem r1) (gd_pl hg')) (gd_nk hg')⟩
/-- .. the same as a whole number -/
theorem one_int {j : D} {m : Nat} {o : Bool} {xs : List Int} (h : Jar m j) (hm : m < 900000) (h0 : xs ≠ []) (hl : xs.length ≤ 1000000) : ∃ v j', v ∈ xs ∧ Jar (m + 1) j' ∧ d_law_one [j, .lst o (xs.map D.int)] = .ok (.int v) [j', .lst o (xs.map D.int)] := by
  obtain ⟨v, j', h1, h2, h3⟩ := one_any (o := o) (xs := xs.map D.int) h hm (by simpa using h0) (by simpa using hl) (gds_of fun d hd => by
    obtain ⟨i, _, rfl⟩ := List.mem_map.mp hd
    rfl)
  obtain ⟨i, hi, rfl⟩ := List.mem_map.mp h1
  exact ⟨i, j', hi, h2, h3⟩
/-! ### the jar's start -/
abbrev plB : SDen := sq (sSet 4 (uno intD (bin max2D (bin ixD (nm 0) (nm 3)) (bin subD (uno negD (cst (.int 1))) (bin ixD (nm 0) (nm 3))))))
    (sq (sSet 2 (bin modD (uno intD (bin addD (bin addD (bin mulD (nm 2) (cst (.int 48271))) (bin modD (nm 4) (cst (.int 2147483629)))) (cst (.int 11)))) (cst (.int 2147483647))))
    (sSet 1 (ifE (andT (tst (bin geD (nm 4) (bin powD (cst (.int 10)) (cst (.int 12))))) (tst (bin ltD (nm 1) (bin powD (cst (.int 10)) (cst (.int 60)))))) (uno intD (bin addD (bin mulD (nm 1) (bin powD (cst (.int 10)) (cst (.int 60)))) (bin modD (nm 4) (bin powD (cst (.int 10)) (cst (.int 60)))))) (vl 1))))
theorem pow_of {i j k : Int} (hc : powC i j = true) (h : i ^ j.toNat = k) : powD (.int i) (.int j) = some (.int k) := by
  show (if powC i j = true then some (D.int (i ^ j.toNat)) else none) = _
  rw [if_pos hc, h]
theorem pow60 : powD (.int 10) (.int 60) = some (.int 1000000000000000000000000000000000000000000000000000000000000) := pow_of (by decide +kernel) (by decide +kernel)
theorem pow12 : powD (.int 10) (.int 12) = some (.int 1000000000000) := pow_of (by decide +kernel) (by decide +kernel)
theorem pl_body {ns : List Int} {d s z : Int} {i : Int} {x : D} (hi : ixD (.scr ns) (.int i) = some (.int z)) (hd : 0 ≤ d) (hs : 0 ≤ s ∧ s < 2147483647) : ∃ (d' s' : Int) (x' : D), 0 ≤ d' ∧ 0 ≤ s' ∧ s' < 2147483647 ∧ plB [.scr ns, .int d, .int s, .int i, x] = .nx [.scr ns, .int d', .int s', .int i, x'] := by
  obtain ⟨Q, hQ⟩ : ∃ Q : Int, powD (.int 10) (.int 60) = some (.int Q) ∧ 0 < Q ∧ Q.natAbs < 2 ^ 200 := ⟨1000000000000000000000000000000000000000000000000000000000000, pow60, by decide, by decide⟩
  obtain ⟨p60, q0, q2⟩ := hQ
  obtain ⟨R, hR⟩ : ∃ R : Int, powD (.int 10) (.int 12) = some (.int R) := ⟨1000000000000, pow12⟩
  obtain ⟨c, hc⟩ : ∃ c : Int, max2D (.int z) (.int (-1 - z)) = some (.int c) := ⟨_, rfl⟩
  have m1 : mulD (.int s) (.int 48271) = some (.int (s * 48271)) := by
    have : mulC s 48271 = true := mulC_r (by omega) (by omega)
    simp [mulD, this]
  have mQ : ∀ y : Int, modD (.int y) (.int Q) = some (.int (y % Q)) := fun y => by
    simp [modD, iopC, modC, q0]
  have mP : ∀ y : Int, modD (.int y) (.int 2147483647) = some (.int (y % 2147483647)) := fun y => rfl
  have mS : ∀ y : Int, modD (.int y) (.int 2147483629) = some (.int (y % 2147483629)) := fun y => rfl
  obtain ⟨s', hs'⟩ : ∃ s' : Int, s' = (s * 48271 + c % 2147483629 + 11) % 2147483647 := ⟨_, rfl⟩
  have b1 : 0 ≤ s' := by rw [hs']; exact Int.emod_nonneg _ (by omega)
  have b2 : s' < 2147483647 := by rw [hs']; exact Int.emod_lt_of_pos _ (by omega)
  by_cases g1 : R ≤ c
  · by_cases g2 : d < Q
    · have m2 : mulD (.int d) (.int Q) = some (.int (d * Q)) := by
        have : mulC d Q = true := mulC_of (a := 200) (b := 200) (by omega) q2 (by decide)
        simp [mulD, this]
      refine ⟨d * Q + c % Q, s', .int c, Int.add_nonneg (Int.mul_nonneg hd (by omega)) (Int.emod_nonneg _ (by omega)), b1, b2, ?_⟩
      simp [plB, nk0, fnD, outD, sq, sRet, sIf, sNil, sExpr, sSet, sPar, sPar3, sAsg, sSto, putAt, onE, onT, andV, orV, notV, andT, orT, notT, ifE, tst, Rz.bind, nm, vl, cst, bin, uno, chn, dsp, acons, anil, callD, okA, lendD, wbD, runL, mtD, appL, extL, popL, Hdl.get, valsOf, D.nks, D.nk, D.pl, D.pls, D.frz, D.frzs, nkU, isiD, isiB, iop, iopC, ltD, leD, gtD, geD, addD, subD, fdivD, negD, isND, notND, isNB, gN, gT, gU, gC, gNo, lamD, frzAll, cloOf, onlyD, fz, astar, sRaise, intD, hi, hc, m1, m2, mQ, mP, mS, p60, hR, g1, g2, hs']
    · refine ⟨d, s', .int c, hd, b1, b2, ?_⟩
      simp [plB, nk0, fnD, outD, sq, sRet, sIf, sNil, sExpr, sSet, sPar, sPar3, sAsg, sSto, putAt, onE, onT, andV, orV, notV, andT, orT, notT, ifE, tst, Rz.bind, nm, vl, cst, bin, uno, chn, dsp, acons, anil, callD, okA, lendD, wbD, runL, mtD, appL, extL, popL, Hdl.get, valsOf, D.nks, D.nk, D.pl, D.pls, D.frz, D.frzs, nkU, isiD, isiB, iop, iopC, ltD, leD, gtD, geD, addD, subD, fdivD, negD, isND, notND, isNB, gN, gT, gU, gC, gNo, lamD, frzAll, cloOf, onlyD, fz, astar, sRaise, intD, hi, hc, m1, mQ, mP, mS, p60, hR, g1, g2, hs']
  · refine ⟨d, s', .int c, hd, b1, b2, ?_⟩
    simp [plB, nk0, fnD, outD, sq, sRet, sIf, sNil, sExpr, sSet, sPar, sPar3, sAsg, sSto, putAt, onE, onT, andV, orV, notV, andT, orT, notT, ifE, tst, Rz.bind, nm, vl, cst, bin, uno, chn, dsp, acons, anil, callD, okA, lendD, wbD, runL, mtD, appL, extL, popL, Hdl.get, valsOf, D.nks, D.nk, D.pl, D.pls, D.frz, D.frzs, nkU, isiD, isiB, iop, iopC, ltD, leD, gtD, geD, addD, subD, fdivD, negD, isND, notND, isNB, gN, gT, gU, gC, gNo, lamD, frzAll, cloOf, onlyD, fz, astar, sRaise, intD, hi, hc, m1, mQ, mP, mS, p60, hR, g1, hs']
theorem pl_loop {ns : List Int} : ∀ (js : List Nat) (d s : Int) (x y : D), (∀ j ∈ js, j < ns.length) → 0 ≤ d → 0 ≤ s ∧ s < 2147483647 → ∃ (d' s' : Int) (x' y' : D), 0 ≤ d' ∧ (0 ≤ s' ∧ s' < 2147483647) ∧ forL (gN 3) plB (js.map fun j => .int (0 + (j : Nat) * 1)) [.scr ns, .int d, .int s, x, y] = .nx [.scr ns, .int d', .int s', x', y']
  | [], d, s, x, y, hj, hd, hs => ⟨d, s, x, y, hd, hs, rfl⟩
  | j :: js, d, s, x, y, hj, hd, hs => by
    have hj0 := hj j List.mem_cons_self
    have hi : ixD (.scr ns) (.int (j : Int)) = some (.int ns[j]) := by
      show (L2.atI ns (j : Int)).map D.int = _
      rw [L2.atI_nat (List.getElem?_eq_getElem hj0)]
      rfl
    obtain ⟨d1, s1, x1, a1, a2, a3, e1⟩ := pl_body (x := y) hi hd hs
    obtain ⟨d', s', x', y', b1, b2, e2⟩ := pl_loop (ns := ns) js d1 s1 (.int (j : Int)) x1 (fun k hk => hj k (List.mem_cons_of_mem _ hk)) a1 ⟨a2, a3⟩
    refine ⟨d', s', x', y', b1, b2, ?_⟩
    have e3 : (0 : Int) + (j : Int) * 1 = (j : Int) := by omega
    rw [List.map_cons, e3]
    exact (forL_go rfl e1).trans e2
theorem pool_ok {ns : List Int} (hl : ns.length ≤ 63) : ∃ j, Jar 0 j ∧ d_law_pool [.scr ns] = .ok j [.scr ns] := by
  obtain ⟨d', s', x', y', b1, b2, e⟩ := pl_loop (ns := ns) (List.range ns.length) 0 7 .un .un (fun j hj => List.mem_range.mp hj) (by omega) (by omega)
  refine ⟨.lst true [.int d', .int s', .int 0], ⟨d', s', 0, rfl, b1, b2.1, b2.2, by omega, by omega⟩, ?_⟩
  have e1 : rgS1 (uno lenD (nm 0)) [.scr ns, .int 0, .int 7, .un, .un] = .ok ((List.range ns.length).map fun j => .int (0 + (j : Nat) * 1)) [.scr ns, .int 0, .int 7, .un, .un] := by
    have : inRg (ns.length : Int) = true := by
      unfold inRg
      rw [Bool.and_eq_true]
      exact ⟨decide_eq_true (by omega), decide_eq_true (by omega)⟩
    simp [rgS1, nk0, fnD, outD, sq, sRet, sIf, sNil, sExpr, sSet, sPar, sPar3, sAsg, sSto, putAt, onE, onT, andV, orV, notV, andT, orT, notT, ifE, tst, Rz.bind, nm, vl, cst, bin, uno, chn, dsp, acons, anil, callD, okA, lendD, wbD, runL, mtD, appL, extL, popL, Hdl.get, valsOf, D.nks, D.nk, D.pl, D.pls, D.frz, D.frzs, nkU, isiD, isiB, iop, iopC, ltD, leD, gtD, geD, addD, subD, mulD, modD, fdivD, negD, modC, isND, notND, isNB, ixD, plO, gN, gT, gU, gC, gNo, lamD, frzAll, cloOf, onlyD, fz, astar, sRaise, lenD, intOf, this, rgD]
  have e2 : b_law_pool [.scr ns, .un, .un, .un, .un] = .rt (.lst true [.int d', .int s', .int 0]) [.scr ns, .int d', .int s', x', y'] := by
    show sq (sAsg (dsp .tup (acons (cst (.int 0)) (acons (cst (.int 7)) (anil)))) (gT 2 (gC (gN 1) (gC (gN 2) (gNo))))) (sq (sFor (rgS1 (uno lenD (nm 0))) (gN 3) plB) (sRet (dsp (.lst true) (acons (vl 1) (acons (vl 2) (acons (cst (.int 0)) (anil))))))) [.scr ns, .un, .un, .un, .un] = _
    have e0 : sAsg (dsp .tup (acons (cst (.int 0)) (acons (cst (.int 7)) (anil)))) (gT 2 (gC (gN 1) (gC (gN 2) (gNo)))) [.scr ns, .un, .un, .un, .un] = .nx [.scr ns, .int 0, .int 7, .un, .un] := by simp [nk0, fnD, outD, sq, sRet, sIf, sNil, sExpr, sSet, sPar, sPar3, sAsg, sSto, putAt, onE, onT, andV, orV, notV, andT, orT, notT, ifE, tst, Rz.bind, nm, vl, cst, bin, uno, chn, dsp, acons, anil, callD, okA, lendD, wbD, runL, mtD, appL, extL, popL, Hdl.get, valsOf, D.nks, D.nk, D.pl, D.pls, D.frz, D.frzs, nkU, isiD, isiB, iop, iopC, ltD, leD, gtD, geD, addD, subD, mulD, modD, fdivD, negD, modC, isND, notND, isNB, ixD, plO, gN, gT, gU, gC, gNo, lamD, frzAll, cloOf, onlyD, fz, astar, sRaise]
    unfold sq
    rw [e0]
    simp only [sFor, e1, e]
    simp [nk0, fnD, outD, sq, sRet, sIf, sNil, sExpr, sSet, sPar, sPar3, sAsg, sSto, putAt, onE, onT, andV, orV, notV, andT, orT, notT, ifE, tst, Rz.bind, nm, vl, cst, bin, uno, chn, dsp, acons, anil, callD, okA, lendD, wbD, runL, mtD, appL, extL, popL, Hdl.get, valsOf, D.nks, D.nk, D.pl, D.pls, D.frz, D.frzs, nkU, isiD, isiB, iop, iopC, ltD, leD, gtD, geD, addD, subD, mulD, modD, fdivD, negD, modC, isND, notND, isNB, ixD, plO, gN, gT, gU, gC, gNo, lamD, frzAll, cloOf, onlyD, fz, astar, sRaise]
  have o : ∀ b : SDen, b [.scr ns, .un, .un, .un, .un] = .rt (.lst true [.int d', .int s', .int 0]) [.scr ns, .int d', .int s', x', y'] → nk0 (fnD 1 5 fx_law_pool b) [.scr ns] = .ok (.lst true [.int d', .int s', .int 0]) [.scr ns] := fun b h => by
    simp [nk0, fnD, outD, sq, sRet, sIf, sNil, sExpr, sSet, sPar, sPar3, sAsg, sSto, putAt, onE, onT, andV, orV, notV, andT, orT, notT, ifE, tst, Rz.bind, nm, vl, cst, bin, uno, chn, dsp, acons, anil, callD, okA, lendD, wbD, runL, mtD, appL, extL, popL, Hdl.get, valsOf, D.nks, D.nk, D.pl, D.pls, D.frz, D.frzs, nkU, isiD, isiB, iop, iopC, ltD, leD, gtD, geD, addD, subD, mulD, modD, fdivD, negD, modC, isND, notND, isNB, ixD, plO, gN, gT, gU, gC, gNo, lamD, frzAll, cloOf, onlyD, fz, astar, sRaise, fx_law_pool, h]
  exact o _ e2
end Law
end

section
set_option Elab.async false
set_option linter.all false
set_option maxRecDepth 100000
set_option maxHeartbeats 4000000
namespace Law
open Y
/-! ### plain things -/
def wh (x : D) (lo hi : Int) : Bool := match x with
  | .int i => decide (lo ≤ i) && decide (i ≤ hi)
  | _ => false
theorem wh_int {x : D} {lo hi : Int} (h : wh x lo hi = true) : ∃ i : Int, x = .int i ∧ lo ≤ i ∧ i ≤ hi := by
  cases x <;> first | (cases h; done) | skip
  rename_i i
  have h : (decide (lo ≤ i) && decide (i ≤ hi)) = true := h
  rw [Bool.and_eq_true, decide_eq_true_eq, decide_eq_true_eq] at h
  exact ⟨i, rfl, h.1, h.2⟩
theorem two_len {ds : List D} (h : ds.length = 2) : ∃ a b, ds = [a, b] := by
  match ds, h with
  | [a, b], _ => exact ⟨a, b, rfl⟩
theorem ixt0 {a b : D} (h : a.pl = true) : ixD (.tup [a, b]) (.int 0) = some a := ixt_nat (xs := [a, b]) (i := 0) rfl h
theorem ixt1 {a b : D} (h : b.pl = true) : ixD (.tup [a, b]) (.int 1) = some b := ixt_nat (xs := [a, b]) (i := 1) rfl h
theorem gd_two {a b : D} (h : gd (.tup [a, b]) = true) : gd a = true ∧ gd b = true := by
  have hd : (gd a && (gd b && true)) = true := h
  simpa only [Bool.and_eq_true, and_true] using hd
/-- the first place from k on at which p says no -/
def firstNo (p : D → Bool) : Nat → List D → Option Nat
  | _, [] => none
  | k, d :: ds => if p d = true then firstNo p (k + 1) ds else some k
theorem gds_tup {R : List D} (h : gds R = true) : D.frzs R = R ∧ D.nks R = true ∧ D.pls R = true := ⟨gds_frz h, gds_nk h, gds_pl h⟩
theorem eqi (a b : Int) : eqD (.int a) (.int b) = some (.bl (decide (a = b))) := rfl
theorem wh_in {i n : Int} (h0 : 0 ≤ i) (h1 : i < n) : wh (.int i) 0 (n - 1) = true := by
  simp only [wh, Bool.and_eq_true, decide_eq_true_eq]
  omega
def isI : D → Bool
  | .int _ => true
  | _ => false
theorem is_whole_any {x : D} (h : gd x = true) : d_law_yv_is_whole [x] = .ok (.bl (isI x)) [x] := by
  have e := gd_ok h
  cases x <;> first
    | (cases h; done)
    | (simp [d_law_yv_is_whole, b_law_yv_is_whole, fx_law_yv_is_whole, nk0, fnD, outD, sq, sRet, sIf, sNil, sExpr, sSet, sPar, sPar3, sAsg, sSto, putAt, onE, onT, andV, orV, notV, andT, orT, notT, ifE, tst, Rz.bind, nm, vl, cst, bin, uno, chn, dsp, acons, anil, callD, okA, lendD, wbD, runL, mtD, appL, extL, popL, Hdl.get, valsOf, D.nks, D.nk, D.pl, D.pls, D.frz, D.frzs, nkU, isiD, isiB, iop, iopC, ltD, leD, gtD, geD, addD, subD, mulD, modD, fdivD, negD, modC, isND, notND, isNB, ixD, plO, gN, gT, gU, gC, gNo, lamD, frzAll, cloOf, onlyD, fz, astar, sRaise, isI]; done)
    | (have e1 := e.nk; simp only [D.nk] at e1; simp [d_law_yv_is_whole, b_law_yv_is_whole, fx_law_yv_is_whole, nk0, fnD, outD, sq, sRet, sIf, sNil, sExpr, sSet, sPar, sPar3, sAsg, sSto, putAt, onE, onT, andV, orV, notV, andT, orT, notT, ifE, tst, Rz.bind, nm, vl, cst, bin, uno, chn, dsp, acons, anil, callD, okA, lendD, wbD, runL, mtD, appL, extL, popL, Hdl.get, valsOf, D.nks, D.nk, D.pl, D.pls, D.frz, D.frzs, nkU, isiD, isiB, iop, iopC, ltD, leD, gtD, geD, addD, subD, mulD, modD, fdivD, negD, modC, isND, notND, isNB, ixD, plO, gN, gT, gU, gC, gNo, lamD, frzAll, cloOf, onlyD, fz, astar, sRaise, isI, e1]; done)
    | (rename_i o ds; cases o <;> first | (cases h; done) | (have e1 := e.nk; simp only [D.nk] at e1; simp [d_law_yv_is_whole, b_law_yv_is_whole, fx_law_yv_is_whole, nk0, fnD, outD, sq, sRet, sIf, sNil, sExpr, sSet, sPar, sPar3, sAsg, sSto, putAt, onE, onT, andV, orV, notV, andT, orT, notT, ifE, tst, Rz.bind, nm, vl, cst, bin, uno, chn, dsp, acons, anil, callD, okA, lendD, wbD, runL, mtD, appL, extL, popL, Hdl.get, valsOf, D.nks, D.nk, D.pl, D.pls, D.frz, D.frzs, nkU, isiD, isiB, iop, iopC, ltD, leD, gtD, geD, addD, subD, mulD, modD, fdivD, negD, modC, isND, notND, isNB, ixD, plO, gN, gT, gU, gC, gNo, lamD, frzAll, cloOf, onlyD, fz, astar, sRaise, isI, e1]; done))
theorem o_is_in {x : D} {lo hi : Int} {g : List D → Rt} (h : gd x = true) (c : g [x] = .ok (.bl (isI x)) [x]) : nk0 (fnD 3 3 fx_law_yv_is_in (B_law_yv_is_in g)) [x, .int lo, .int hi] = .ok (.bl (wh x lo hi)) [x, .int lo, .int hi] := by
  have e := gd_ok h
  by_cases hi' : ∃ i, x = .int i
  · obtain ⟨i, rfl⟩ := hi'
    by_cases h1 : lo ≤ i <;> simp [B_law_yv_is_in, fx_law_yv_is_in, nk0, fnD, outD, sq, ret_eq, retS, sIf, sNil, sExpr, sSet, sPar, sPar3, sAsg, sSto, putAt, onE, onT, andV, orV, notV, andT, orT, notT, ifE, tst, Rz.bind, nm_eq, vl_eq, cst, bin, uno, chn, dsp, acons, anil, callD, okA_nil, okA_val, okA_slot, lendD, wbD, runL, mtD, appL, extL, popL, Hdl.get, valsOf, D.nks, D.nk, D.pl, D.pls, D.frz, D.frzs, isiD, isiB, iop, iopC, ltD, leD, gtD, geD, addD, subD, mulD, modD, fdivD, negD, modC, isND, notND, isNB, gN, gT, gU, gC, gNo, lamD, frzAll_nil, frzAll_cons, cloOf, onlyD, fz, astar, sRaise, c, isI, wh, h1]
  · have n1 : isI x = false := by
      cases x <;> first | rfl | exact absurd ⟨_, rfl⟩ hi'
    have n2 : wh x lo hi = false := by
      cases x <;> first | rfl | exact absurd ⟨_, rfl⟩ hi'
    rw [n1] at c
    simp [B_law_yv_is_in, fx_law_yv_is_in, nk0, fnD, outD, sq, ret_eq, retS, sIf, sNil, sExpr, sSet, sPar, sPar3, sAsg, sSto, putAt, onE, onT, andV, orV, notV, andT, orT, notT, ifE, tst, Rz.bind, nm_eq, vl_eq, cst, bin, uno, chn, dsp, acons, anil, callD, okA_nil, okA_val, okA_slot, lendD, wbD, runL, mtD, appL, extL, popL, Hdl.get, valsOf, D.nks, D.nk, D.pl, D.pls, D.frz, D.frzs, isiD, isiB, iop, iopC, ltD, leD, gtD, geD, addD, subD, mulD, modD, fdivD, negD, modC, isND, notND, isNB, gN, gT, gU, gC, gNo, lamD, frzAll_nil, frzAll_cons, cloOf, onlyD, fz, astar, sRaise, c, n2, e.un, e.pl, e.nk, e.nku]
theorem is_in_any {x : D} {lo hi : Int} (h : gd x = true) : d_law_yv_is_in [x, .int lo, .int hi] = .ok (.bl (wh x lo hi)) [x, .int lo, .int hi] := o_is_in (g := d_law_yv_is_whole) h (is_whole_any h)
/-! ### the places of what is wrong -/
def badAt (p : D → Bool) : Nat → List D → List Nat
  | _, [] => []
  | k, d :: ds => if p d = true then badAt p (k + 1) ds else k :: badAt p (k + 1) ds
theorem badAt_head (p : D → Bool) : ∀ (ds : List D) (k : Nat), (badAt p k ds).head? = firstNo p k ds
  | [], _ => rfl
  | d :: ds, k => by
    show (if p d = true then badAt p (k + 1) ds else k :: badAt p (k + 1) ds).head? = (if p d = true then firstNo p (k + 1) ds else some k)
    by_cases h : p d = true
    · rw [if_pos h, if_pos h]
      exact badAt_head p ds (k + 1)
    · rw [if_neg h, if_neg h]
      rfl
theorem badAt_range (p : D → Bool) (f : Nat → Bool) : ∀ (ds : List D) (k : Nat), (∀ (j : Nat) (h : j < ds.length), f (k + j) = !p ds[j]) → (List.range' k ds.length).filter f = badAt p k ds
  | [], k, h => rfl
  | d :: ds, k, h => by
    have h0 : f k = !p d := h 0 (by simp)
    have ih := badAt_range p f ds (k + 1) (fun j hj => by
      have := h (j + 1) (by simp; omega)
      rw [show k + (j + 1) = k + 1 + j by omega] at this
      simpa using this)
    rw [List.length_cons, List.range'_succ]
    show _ = (if p d = true then badAt p (k + 1) ds else k :: badAt p (k + 1) ds)
    by_cases hp : p d = true
    · rw [List.filter_cons_of_neg (by rw [h0, hp]; simp), ih, if_pos hp]
    · rw [List.filter_cons_of_pos (by rw [h0]; simpa using hp), ih, if_neg hp]
theorem bad_list (p : D → Bool) (ds : List D) : ((((List.range ds.length).map fun (k : Nat) => D.int (k : Int)).filter fun d => match d with
    | .int i => !p ((ds[i.toNat]?).getD .un)
    | _ => false).map id) = (badAt p 0 ds).map fun (k : Nat) => D.int (k : Int) := by
  rw [List.map_id, List.filter_map, ← badAt_range p (fun k => !p ((ds[k]?).getD .un)) ds 0 (fun j h => by rw [Nat.zero_add, List.getElem?_eq_getElem h]; rfl), List.range_eq_range']
  congr 1
theorem ne_nil {o : Bool} {L : List D} : neD (.lst o L) (.lst true []) = some (.bl (!L.isEmpty)) := by
  cases L with
  | nil => cases o <;> rfl
  | cons x L => simp [neD, eqB]
theorem intN_gds (L : List Nat) : gds (L.map fun (k : Nat) => D.int (k : Int)) = true := gds_of fun d hd => by
  obtain ⟨k, _, rfl⟩ := List.mem_map.mp hd
  rfl
end Law
end

section
set_option Elab.async false
set_option linter.all false
set_option maxRecDepth 100000
set_option maxHeartbeats 4000000
namespace Law
open Y
/-! ### what a call comes to -/
inductive Ans where
  | told (d : D) | ref (c : PySem.Str) (d : D)
def Ans.D : Ans → D
  | .told d => .tup [.str "told", d]
  | .ref c d => .tup [.str c, d]
def Ans.ok : Ans → Prop
  | .told d => gd d = true
  | .ref c d => gd d = true ∧ c ∈ errs
/-- the answer of a def, whatever it leaves of its arguments -/
def Is (r : Rt) (a : Ans) : Prop := match a with
  | .told d => ∃ ps, r = .ok d ps
  | .ref c d => r = .ex c d
theorem Ans.gd {a : Ans} (h : a.ok) : gd a.D = true := by
  cases a with
  | told d =>
    have h : Y.gd d = true := h
    show (true && (Y.gd d && true)) = true
    rw [h]
    rfl
  | ref c d =>
    have h : Y.gd d = true := h.1
    show (true && (Y.gd d && true)) = true
    rw [h]
    rfl
theorem Ans.inj_told {d : Y.D} : (Ans.told d).D = .tup [.str "told", d] := rfl
/-! ### heard -/
theorem heard_tok {d : D} (h : gd d = true) : d_law_c2_heard [.tok d] = .ok (Ans.told d).D [.tok d] := by
  have e := gd_ok h
  simp [d_law_c2_heard, b_law_c2_heard, fx_law_c2_heard, nk0, fnD, outD, sq, ret_eq, retS, sIf, sNil, sExpr, sSet, sPar, sPar3, sAsg, sSto, putAt, onE, onT, andV, orV, notV, andT, orT, notT, ifE, tst, Rz.bind, nm_eq, vl_eq, cst, bin, uno, chn, dsp, acons, anil, callD, okA_nil, okA_val, okA_slot, lendD, wbD, runL, mtD, appL, extL, popL, Hdl.get, valsOf, D.nks, D.nk, D.pl, D.pls, D.frz, D.frzs, isiD, isiB, iop, iopC, ltD, leD, gtD, geD, addD, subD, mulD, modD, fdivD, negD, modC, isND, notND, isNB, gN, gT, gU, gC, gNo, lamD, frzAll_nil, frzAll_cons, cloOf, onlyD, fz, astar, sRaise, nkU, sTry, cloD, e.nk, Ans.D, D.nk]
abbrev hItem (c m : PySem.Str) : D := .tup [.str m, .bl (decide (c = m))]
theorem filter_one {c : PySem.Str} : ∀ {ns : List PySem.Str}, ns.Nodup → c ∈ ns → ns.filter (fun m => decide (c = m)) = [c]
  | [], _, h => by cases h
  | m :: ns, hn, h => by
    obtain ⟨h1, h2⟩ := List.nodup_cons.mp hn
    by_cases e : c = m
    · subst e
      rw [List.filter_cons_of_pos (by simp)]
      congr 1
      refine List.filter_eq_nil_iff.mpr fun x hx => ?_
      simp only [decide_eq_true_eq]
      rintro rfl
      exact h1 hx
    · rw [List.filter_cons_of_neg (by simp [e])]
      rcases List.mem_cons.mp h with h | h
      · exact absurd h e
      · exact filter_one h2 h
theorem heard_lc {c : PySem.Str} {x y : D} {ns : List PySem.Str} (hn : ns.Nodup) (hc : c ∈ ns) (hl : ns.length ≤ 1000) :
    lcE (seqS (vl 2)) (gT 2 (gC (gN 3) (gC (gN 4) (gNo)))) (tst (nm 4)) (vl 3) [3, 4] [x, y, .lst true (ns.map (hItem c)), .un, .un] = .ok (.val (.lst true [.str c])) [x, y, .lst false (ns.map (hItem c)), .un, .un] := by
  have hp : D.pls (ns.map (hItem c)) = true := gds_pl (gds_of fun d hd => by
    obtain ⟨m, _, rfl⟩ := List.mem_map.mp hd
    rfl)
  have hf : D.frzs (ns.map (hItem c)) = ns.map (hItem c) := gds_frz (gds_of fun d hd => by
    obtain ⟨m, _, rfl⟩ := List.mem_map.mp hd
    rfl)
  have hs : seqS (vl 2) [x, y, .lst true (ns.map (hItem c)), .un, .un] = .ok (ns.map (hItem c)) [x, y, .lst false (ns.map (hItem c)), .un, .un] := by
    simp [seqS, seqOf, nk0, fnD, outD, sq, ret_eq, retS, sIf, sNil, sExpr, sSet, sPar, sPar3, sAsg, sSto, putAt, onE, onT, andV, orV, notV, andT, orT, notT, ifE, tst, Rz.bind, nm_eq, vl_eq, cst, bin, uno, chn, dsp, acons, anil, callD, okA_nil, okA_val, okA_slot, lendD, wbD, runL, mtD, appL, extL, popL, Hdl.get, valsOf, D.nks, D.nk, D.pl, D.pls, D.frz, D.frzs, isiD, isiB, iop, iopC, ltD, leD, gtD, geD, addD, subD, mulD, modD, fdivD, negD, modC, isND, notND, isNB, gN, gT, gU, gC, gNo, lamD, frzAll_nil, frzAll_cons, cloOf, onlyD, fz, astar, sRaise, hp, hf]
  have q := lcE_map (t := gT 2 (gC (gN 3) (gC (gN 4) (gNo)))) (q := tst (nm 4)) (f := vl 3) (ow := [3, 4]) (fun d => match d with
    | .tup [_, .bl b] => b
    | _ => false) (fun d => match d with
    | .tup [a, _] => a
    | _ => .non) hs (by simp; omega) (fun d hd => by
      obtain ⟨m, _, rfl⟩ := List.mem_map.mp hd
      refine ⟨[x, y, .lst false (ns.map (hItem c)), .str m, .bl (decide (c = m))], by simp [gT, gC, gN, gNo, wipeD], by simp [nk0, fnD, outD, sq, sRet, sIf, sNil, sExpr, sSet, sPar, sPar3, sAsg, sSto, putAt, onE, onT, andV, orV, notV, andT, orT, notT, ifE, tst, Rz.bind, nm, vl, cst, bin, uno, chn, dsp, acons, anil, callD, okA, lendD, wbD, runL, mtD, appL, extL, popL, Hdl.get, valsOf, D.nks, D.nk, D.pl, D.pls, D.frz, D.frzs, nkU, isiD, isiB, iop, iopC, ltD, leD, gtD, geD, addD, subD, mulD, modD, fdivD, negD, modC, isND, notND, isNB, ixD, plO, gN, gT, gU, gC, gNo, lamD, frzAll, cloOf, onlyD, fz, astar, sRaise], fun _ => by simp [nk0, fnD, outD, sq, sRet, sIf, sNil, sExpr, sSet, sPar, sPar3, sAsg, sSto, putAt, onE, onT, andV, orV, notV, andT, orT, notT, ifE, tst, Rz.bind, nm, vl, cst, bin, uno, chn, dsp, acons, anil, callD, okA, lendD, wbD, runL, mtD, appL, extL, popL, Hdl.get, valsOf, D.nks, D.nk, D.pl, D.pls, D.frz, D.frzs, nkU, isiD, isiB, iop, iopC, ltD, leD, gtD, geD, addD, subD, mulD, modD, fdivD, negD, modC, isND, notND, isNB, ixD, plO, gN, gT, gU, gC, gNo, lamD, frzAll, cloOf, onlyD, fz, astar, sRaise], by simp [wipeD]⟩)
  rw [q]
  have e1 : ((ns.map (hItem c)).filter fun d => match d with
    | .tup [_, .bl b] => b
    | _ => false) = [hItem c c] := by
    rw [List.filter_map]
    have : (fun m => decide (c = m)) = ((fun d => match d with
      | .tup [_, .bl b] => b
      | _ => false) ∘ hItem c) := rfl
    rw [← this, filter_one hn hc]
    rfl
  rw [e1]
  rfl
theorem join_one {c : PySem.Str} (hl : c.length ≤ 1000) : joinD " " (.lst true [.str c]) = some (.str c) := by
  have e : PySem.Txt.join " " [c] = c := by
    first
    | rfl
    | simp [PySem.Txt.join]
  simp [joinD, itemsD, strsOf, e]
  have : ("" : PySem.Str).length ≤ 1 := by decide
  first
  | omega
  | (have h2 : (" " : PySem.Str).length ≤ 1 := by decide
     omega)
abbrev hNames : List PySem.Str := ["BadPoly", "BadResidue", "Zero"]
theorem errs_names {c : PySem.Str} (hc : c ∈ errs) : c ∈ hNames ∧ c.length ≤ 1000 := by
  simp only [errs, List.mem_cons, List.not_mem_nil, or_false] at hc
  rcases hc with rfl | rfl | rfl <;> exact ⟨by decide, by decide⟩
theorem heard_ex {c : PySem.Str} {d : D} (hc : c ∈ errs) (h : gd d = true) : ∃ τ, b_law_c2_heard [.tex c d, .un, .un, .un, .un] = .rt (Ans.ref c d).D (.tex c d :: τ) := by
  have hl := heard_lc (x := .tex c d) (y := .un) (ns := hNames) (by decide) (errs_names hc).1 (by decide)
  have hj := join_one (errs_names hc).2
  simp only [hNames, hItem, List.map_cons, List.map_nil] at hl
  have hs : subE c = some true := if_pos hc
  refine ⟨[.un, .lst false (hNames.map (hItem c)), .un, .un], ?_⟩
  simp [b_law_c2_heard, nk0, fnD, outD, sq, sRet, sIf, sNil, sExpr, sSet, sPar, sPar3, sAsg, sSto, putAt, onE, onT, andV, orV, notV, andT, orT, notT, ifE, tst, Rz.bind, nm, vl, cst, bin, uno, chn, dsp, acons, anil, callD, okA, lendD, wbD, runL, mtD, appL, extL, popL, Hdl.get, valsOf, D.nks, D.nk, D.pl, D.pls, D.frz, D.frzs, nkU, isiD, isiB, iop, iopC, ltD, leD, gtD, geD, addD, subD, mulD, modD, fdivD, negD, modC, isND, notND, isNB, ixD, plO, gN, gT, gU, gC, gNo, lamD, frzAll, cloOf, onlyD, fz, astar, sRaise, sTry, hs, cloD, hl, hj, Ans.D]
theorem heard_tex {c : PySem.Str} {d : D} (hc : c ∈ errs) (h : gd d = true) : d_law_c2_heard [.tex c d] = .ok (Ans.ref c d).D [.tex c d] := by
  have e := gd_ok h
  obtain ⟨τ, hb⟩ := heard_ex hc h
  have h4 : fnD 1 5 fx_law_c2_heard b_law_c2_heard [.tex c d] = .ok (Ans.ref c d).D [.tex c d] := by
    unfold fnD
    rw [if_pos (by rfl)]
    show (match b_law_c2_heard [.tex c d, .un, .un, .un, .un] with
      | .nx τ => _
      | .rt d τ => _
      | .ex n d _ => _
      | _ => _) = _
    rw [hb]
    show (if (Ans.ref c d).D.nk = true then _ else _) = _
    rw [if_pos (gd_nk (Ans.gd (a := .ref c d) ⟨h, hc⟩))]
    rfl
  exact h4
/-- a call as a lambda, heard -/
theorem lam_heard {fb : Den Hdl} {cap : List Nat} {τ τ1 τ2 : List D} {r : Rt} {a : Ans} (ha : a.ok) (h1 : frzAll cap τ = some τ1) (hr : Is r a) (h2 : fb (onlyD cap 0 τ1) = (match r with
    | .ok d ps => .ok (.val d) (τ2 : List D)
    | .ex c d => .ex c d τ2
    | .bad => .bad)) : lamD d_law_c2_heard fb cap anil τ = .ok (.val a.D) τ1 := by
  have gA := Ans.gd ha
  unfold lamD
  rw [h1]
  cases a with
  | told d =>
    obtain ⟨ps, rfl⟩ := hr
    have h : gd d = true := ha
    have hc : cloOf fb cap τ1 = some (.tok d) := by
      unfold cloOf
      rw [h2]
      show (if d.nk = true then _ else _) = _
      rw [if_pos (gd_nk h)]
    simp [hc, anil, Rz.bind, okA, D.nks, heard_tok h, gd_nk gA, wbD, lendD]
  | ref c d =>
    have hr : r = .ex c d := hr
    subst hr
    have hc : cloOf fb cap τ1 = some (.tex c d) := by
      unfold cloOf
      rw [h2]
      show (if d.nk = true then _ else _) = _
      rw [if_pos (gd_nk ha.1)]
    simp [hc, anil, Rz.bind, okA, D.nks, heard_tex ha.2 ha.1, gd_nk gA, wbD, lendD]
/-- what an expression comes to, where only its value counts -/
def Says (r : Rz Hdl) (a : Ans) : Prop := match r with
  | .ok (.val d) _ => a = .told d
  | .ex c d _ => a = .ref c d
  | _ => False
theorem lam_h {fb : Den Hdl} {cap : List Nat} {τ : List D} {a : Ans} (ha : a.ok) (h1 : frzAll cap τ = some τ) (h2 : Says (fb (onlyD cap 0 τ)) a) : lamD d_law_c2_heard fb cap anil τ = .ok (.val a.D) τ := by
  cases e : fb (onlyD cap 0 τ) with
  | bad => rw [e] at h2; exact h2.elim
  | ex c d τ2 =>
    rw [e] at h2
    have h2 : a = .ref c d := h2
    subst h2
    exact lam_heard (r := .ex c d) (τ2 := τ2) ha h1 rfl e
  | ok h τ2 =>
    rw [e] at h2
    cases h with
    | slot i => exact h2.elim
    | val d =>
      have h2 : a = .told d := h2
      subst h2
      exact lam_heard (r := .ok d []) (τ2 := τ2) ha h1 ⟨[], rfl⟩ e
/-- what a lambda's body comes to: a call of plain slots -/
theorem call_is {den : List D → Rt} {g : Den (List Hdl)} {τ τ1 : List D} {hs : List Hdl} {ds : List D} {r : Rt} (h1 : g τ = .ok hs τ1) (h2 : okA τ1 hs = true) (h3 : hs.map (Hdl.get τ1) = ds) (h4 : den ds = r) (h5 : ∀ d ps, r = .ok d ps → wbD hs ds ps (lendD hs τ1) = lendD hs τ1) :
    callD den g τ = (match r with
    | .ok d ps => .ok (.val d) (lendD hs τ1)
    | .ex c d => .ex c d (lendD hs τ1)
    | .bad => .bad) := by
  unfold callD
  rw [h1]
  simp only [Rz.bind, h2, if_true, h3, h4]
  cases r with
  | ok d ps => simp only [h5 d ps rfl]
  | ex c d => rfl
  | bad => rfl
/-- a law's own test: the same, or off -/
theorem same_if {lam o : Den Hdl} {τ τ1 τ2 : List D} {d : D} {h2 : Hdl} (hd : gd d = true) (hz : sz d ≤ 900) (hl : lam τ = .ok (.val d) τ1) (ho : o τ1 = .ok h2 τ2) (hg : h2.get τ2 = d) : sIf (notT (tst (callD d_law_yv_same (acons lam (acons o anil))))) (sRet (cst (.bl false))) (sNil) τ = .nx τ2 := by
  have e := gd_ok hd
  have c := same_refl hd hz
  cases h2 with
  | val x =>
    have hg : x = d := hg
    subst hg
    simp [sIf, notT, tst, callD, acons, anil, Rz.bind, hl, ho, okA_nil, okA_val, Hdl.get, c, wbD, lendD, onT, sNil]
  | slot i =>
    have hu : τ2[i]?.getD .un = d := hg
    have hs : τ2[i]? = some d := by
      cases hc : τ2[i]? with
      | none =>
        rw [hc] at hu
        have hu : D.un = d := hu
        subst hu
        cases hd
      | some y =>
        rw [hc] at hu
        have hu : y = d := hu
        rw [hu]
    simp [sIf, notT, tst, callD, acons, anil, Rz.bind, hl, ho, okA_nil, okA_val, okA_slot, Hdl.get, c, wbD, lendD, onT, sNil, hs, e.un, e.pl]
end Law
end

section
set_option Elab.async false
set_option linter.all false
set_option maxRecDepth 100000
set_option maxHeartbeats 400000
namespace Num
/-! ### 2147483647 is prime; Fermat -/
def okR : Nat → Nat → Bool
  | 0, lo => !decide (2147483647 % lo = 0)
  | k + 1, lo => okR k lo && okR k (lo + 2 ^ k)
theorem okR_all : ∀ (k lo : Nat), okR k lo = true → ∀ d, lo ≤ d → d < lo + 2 ^ k → ¬ 2147483647 % d = 0
  | 0, lo, h, d, h1, h2 => by
    have e : d = lo := by simp at h2; omega
    subst e
    have h : (!decide (2147483647 % d = 0)) = true := h
    simpa using h
  | k + 1, lo, h, d, h1, h2 => by
    have h : (okR k lo && okR k (lo + 2 ^ k)) = true := h
    rw [Bool.and_eq_true] at h
    rw [Nat.pow_succ] at h2
    by_cases hd : d < lo + 2 ^ k
    · exact okR_all k lo h.1 d h1 hd
    · exact okR_all k (lo + 2 ^ k) h.2 d (by omega) (by omega)
theorem okP : okR 16 2 = true := by decide +kernel
def Pr : Nat := 2147483647
theorem pr_dvd {d : Nat} (h : d ∣ 2147483647) : d = 1 ∨ d = 2147483647 := by
  obtain ⟨e, he⟩ := h
  have small : ∀ x y : Nat, 2147483647 = x * y → x ≤ y → x = 1 := fun x y hxy hle => by
    by_cases h1 : x = 1
    · exact h1
    · exfalso
      have h0 : x ≠ 0 := fun z => by rw [z] at hxy; simp at hxy
      have hs : x < 65538 := by
        by_cases hx : x < 65538
        · exact hx
        · have : 65538 * 65538 ≤ x * y := Nat.mul_le_mul (by omega) (by omega)
          omega
      have := okR_all 16 2 okP x (by omega) (by omega)
      exact this (by rw [hxy]; exact Nat.mul_mod_right x y)
  rcases Nat.le_total d e with h | h
  · exact .inl (small d e he h)
  · have := small e d (by rw [he, Nat.mul_comm]) h
    rw [this, Nat.mul_one] at he
    exact .inr he.symm
theorem pr_cop {a : Nat} (h1 : 1 ≤ a) (h2 : a < 2147483647) : Nat.Coprime 2147483647 a := by
  have hd : Nat.gcd 2147483647 a ∣ 2147483647 := Nat.gcd_dvd_left _ _
  rcases pr_dvd hd with h | h
  · exact h
  · have : Nat.gcd 2147483647 a ∣ a := Nat.gcd_dvd_right _ _
    rw [h] at this
    have := Nat.le_of_dvd (by omega) this
    omega
theorem perm_of {l1 : List Nat} : ∀ {l2 : List Nat}, l1.Nodup → (∀ x ∈ l1, x ∈ l2) → l2.length ≤ l1.length → l1.Perm l2 := by
  induction l1 with
  | nil =>
    intro l2 _ _ h
    have : l2 = [] := List.length_eq_zero_iff.mp (by simpa using h)
    rw [this]
  | cons a l1 ih =>
    intro l2 nd sub hl
    have ha : a ∈ l2 := sub a List.mem_cons_self
    have nd' := List.nodup_cons.mp nd
    have hp : l2.Perm (a :: l2.erase a) := List.perm_cons_erase ha
    have hl2 : (l2.erase a).length ≤ l1.length := by
      rw [List.length_erase_of_mem ha]
      simp at hl
      omega
    have := ih (l2 := l2.erase a) nd'.2 (fun x hx => (List.mem_erase_of_ne (fun z => nd'.1 (by rw [← z]; exact hx))).mpr (sub x (List.mem_cons_of_mem _ hx))) hl2
    exact (List.Perm.cons a this).trans hp.symm
theorem dvd_md {x y p : Nat} (h : x ≤ y) (e : x % p = y % p) : p ∣ y - x := Nat.dvd_of_mod_eq_zero (Nat.sub_mod_eq_zero_of_mod_eq e.symm)
theorem md_dvd {x y p : Nat} (h : x ≤ y) (e : p ∣ y - x) : x % p = y % p := by
  obtain ⟨c, hc⟩ := e
  have : y = x + p * c := by omega
  rw [this, Nat.add_mul_mod_self_left]
def prodL : List Nat → Nat
  | [] => 1
  | x :: l => x * prodL l
theorem prod_perm {l1 l2 : List Nat} (h : l1.Perm l2) : prodL l1 = prodL l2 := by
  induction h with
  | nil => rfl
  | cons x _ ih => show x * _ = x * _; rw [ih]
  | swap x y l => show y * (x * _) = x * (y * _); rw [← Nat.mul_assoc, Nat.mul_comm y x, Nat.mul_assoc]
  | trans _ _ h1 h2 => exact h1.trans h2
theorem prod_map (a : Nat) : ∀ l : List Nat, prodL (l.map fun x => a * x % 2147483647) % 2147483647 = a ^ l.length * prodL l % 2147483647
  | [] => rfl
  | x :: l => by
    show (a * x % 2147483647 * prodL (l.map fun x => a * x % 2147483647)) % 2147483647 = a ^ (l.length + 1) * (x * prodL l) % 2147483647
    rw [Nat.mul_mod, prod_map a l, Nat.mod_mod, ← Nat.mul_mod, Nat.pow_succ]
    congr 1
    rw [Nat.mul_assoc (a ^ l.length), Nat.mul_comm (a * x), Nat.mul_assoc, Nat.mul_comm (prodL l), Nat.mul_assoc a]
theorem prod_cop : ∀ l : List Nat, (∀ x ∈ l, Nat.Coprime 2147483647 x) → Nat.Coprime 2147483647 (prodL l)
  | [], _ => by show Nat.gcd 2147483647 1 = 1; simp
  | x :: l, h => Nat.Coprime.mul_right (h x List.mem_cons_self) (prod_cop l fun y hy => h y (List.mem_cons_of_mem _ hy))
theorem fermat {a e : Nat} (he : e = 2147483646) (h1 : 1 ≤ a) (h2 : a < 2147483647) : a ^ e % 2147483647 = 1 := by
  obtain ⟨L, hL⟩ : ∃ L, L = List.range' 1 2147483646 := ⟨_, rfl⟩
  have memL : ∀ x, x ∈ L ↔ 1 ≤ x ∧ x < 2147483647 := fun x => by
    rw [hL, List.mem_range'_1]
  have lenL : L.length = 2147483646 := by rw [hL, List.length_range']
  have ndL : L.Nodup := by rw [hL]; exact List.nodup_range'
  have cop := pr_cop h1 h2
  have inj : ∀ x y, 1 ≤ x → x < 2147483647 → 1 ≤ y → y < 2147483647 → x ≤ y → a * x % 2147483647 = a * y % 2147483647 → x = y := fun x y hx hx2 hy hy2 hle e => by
    have d : 2147483647 ∣ a * y - a * x := dvd_md (Nat.mul_le_mul_left a hle) e
    rw [← Nat.mul_sub] at d
    have d2 := Nat.Coprime.dvd_of_dvd_mul_left cop d
    by_cases z : y - x = 0
    · omega
    · have := Nat.le_of_dvd (by omega) d2
      omega
  have nz : ∀ x, 1 ≤ x → x < 2147483647 → a * x % 2147483647 ≠ 0 := fun x hx hx2 e => by
    have d : 2147483647 ∣ a * x := Nat.dvd_of_mod_eq_zero e
    have d2 := Nat.Coprime.dvd_of_dvd_mul_left cop d
    have := Nat.le_of_dvd (by omega) d2
    omega
  have hp : (L.map fun x => a * x % 2147483647).Perm L := by
    refine perm_of ?_ (fun y hy => ?_) (by simp)
    · refine List.Pairwise.map (R := fun x y => x ∈ L ∧ y ∈ L ∧ x ≠ y) _ (fun x y h e => ?_) ?_
      · obtain ⟨hx, hy, ne⟩ := h
        rcases Nat.le_total x y with hle | hle
        · exact ne (inj x y ((memL x).mp hx).1 ((memL x).mp hx).2 ((memL y).mp hy).1 ((memL y).mp hy).2 hle e)
        · exact ne (inj y x ((memL y).mp hy).1 ((memL y).mp hy).2 ((memL x).mp hx).1 ((memL x).mp hx).2 hle e.symm).symm
      · exact List.Pairwise.imp_of_mem (fun hx hy ne => ⟨hx, hy, ne⟩) ndL
    · obtain ⟨x, hx, rfl⟩ := List.mem_map.mp hy
      have := (memL x).mp hx
      have n := nz x this.1 this.2
      exact (memL _).mpr ⟨Nat.one_le_iff_ne_zero.mpr n, Nat.mod_lt _ (by omega)⟩
  have e1 := prod_map a L
  rw [prod_perm hp, lenL, ← he] at e1
  have c2 : Nat.Coprime 2147483647 (prodL L) := prod_cop L fun x hx => pr_cop ((memL x).mp hx).1 ((memL x).mp hx).2
  have pos : 1 ≤ a ^ e := Nat.one_le_pow _ _ h1
  have d : 2147483647 ∣ a ^ e * prodL L - 1 * prodL L := dvd_md (Nat.mul_le_mul_right _ pos) (by rw [Nat.one_mul]; exact e1)
  rw [← Nat.sub_mul] at d
  have d2 := Nat.Coprime.dvd_of_dvd_mul_right c2 d
  have : 1 % 2147483647 = a ^ e % 2147483647 := md_dvd pos d2
  rw [← this]
end Num
end

section
set_option Elab.async false
set_option linter.all false
set_option maxRecDepth 100000
set_option maxHeartbeats 1000000
namespace Num
/-! ### polys as lists of whole numbers: coefficients, products, values, by whole numbers, then modulo P -/
def cf (p : List Int) (k : Nat) : Int := p[k]?.getD 0
theorem cf_nil (k : Nat) : cf [] k = 0 := rfl
theorem cf_zero (x : Int) (p : List Int) : cf (x :: p) 0 = x := rfl
theorem cf_succ (x : Int) (p : List Int) (k : Nat) : cf (x :: p) (k + 1) = cf p k := by simp [cf]
theorem cf_ge {p : List Int} {k : Nat} (h : p.length ≤ k) : cf p k = 0 := by simp [cf, List.getElem?_eq_none h]
theorem cf_lt {p : List Int} {k : Nat} (h : k < p.length) : cf p k = p[k] := by simp [cf, List.getElem?_eq_getElem h]
/-- a coefficient of the product -/
def cm : List Int → List Int → Nat → Int
  | [], _, _ => 0
  | x :: p, q, 0 => x * cf q 0
  | x :: p, q, k + 1 => x * cf q (k + 1) + cm p q k
theorem cm_nil (p : List Int) (k : Nat) : cm p [] k = 0 := by
  induction p generalizing k with
  | nil => rfl
  | cons x p ih => cases k <;> simp [cm, cf_nil, ih]
theorem cm_cons (y : Int) (q : List Int) : ∀ (p : List Int) (k : Nat), cm p (y :: q) k = (match k with
    | 0 => y * cf p 0
    | k + 1 => y * cf p (k + 1) + cm p q k)
  | [], k => by cases k <;> simp [cm, cf_nil]
  | x :: p, 0 => by simp [cm, cf_zero, Int.mul_comm]
  | x :: p, k + 1 => by
    have ih := cm_cons y q p k
    cases k with
    | zero => simp only [cm, cf_succ, ih]; omega
    | succ k => simp only [cm, cf_succ, ih]; omega
theorem cm_comm : ∀ (p q : List Int) (k : Nat), cm p q k = cm q p k
  | [], q, k => by rw [cm_nil]; rfl
  | x :: p, q, 0 => by rw [cm_cons]; rfl
  | x :: p, q, k + 1 => by rw [cm_cons]; simp only [cm]; rw [cm_comm p q k]
theorem cm_ge : ∀ (p q : List Int) (k : Nat), p.length + q.length ≤ k + 1 → cm p q k = 0
  | [], q, k, h => rfl
  | x :: p, q, 0, h => by
    have : q = [] := List.eq_nil_of_length_eq_zero (by simp at h; omega)
    rw [this, cm_nil]
  | x :: p, q, k + 1, h => by
    simp only [List.length_cons] at h
    simp only [cm]
    by_cases hp : p = []
    · subst hp
      simp only [List.length_nil] at h
      rw [cf_ge (by omega)]
      simp [cm]
    · have := List.length_pos_iff.mpr hp
      rw [cf_ge (by omega), cm_ge p q k (by omega)]
      simp
theorem cm_snoc (x : Int) (q : List Int) : ∀ (p : List Int) (k : Nat), cm (p ++ [x]) q k = cm p q k + (if p.length ≤ k then x * cf q (k - p.length) else 0)
  | [], 0 => by simp [cm]
  | [], k + 1 => by simp [cm]
  | y :: p, 0 => by simp [cm]
  | y :: p, k + 1 => by
    have ih := cm_snoc x q p k
    simp only [List.cons_append, cm, ih, List.length_cons, Nat.add_le_add_iff_right, Nat.add_sub_add_right]
    omega
/-- a value by so many coefficients -/
def vn : Nat → (Nat → Int) → Int → Int
  | 0, _, _ => 0
  | n + 1, f, a => vn n (fun k => f (k + 1)) a * a + f 0
theorem vn_congr {a : Int} : ∀ (n : Nat) {f g : Nat → Int}, (∀ k, k < n → f k = g k) → vn n f a = vn n g a
  | 0, f, g, h => rfl
  | n + 1, f, g, h => by
    simp only [vn]
    rw [vn_congr n (fun k hk => h (k + 1) (by omega)), h 0 (by omega)]
theorem vn_zero {a : Int} : ∀ (n : Nat), vn n (fun _ => 0) a = 0
  | 0 => rfl
  | n + 1 => by simp only [vn]; rw [vn_zero n]; simp
theorem vn_more {a : Int} : ∀ (n m : Nat) {f : Nat → Int}, (∀ k, n ≤ k → f k = 0) → n ≤ m → vn m f a = vn n f a
  | 0, m, f, h, hm => by
    rw [vn_congr m (g := fun _ => 0) (fun k _ => h k (by omega)), vn_zero]
    rfl
  | n + 1, 0, f, h, hm => by omega
  | n + 1, m + 1, f, h, hm => by
    simp only [vn]
    rw [vn_more n m (fun k hk => h (k + 1) (by omega)) (by omega)]
theorem vn_lin {a x : Int} : ∀ (n : Nat) {f g : Nat → Int}, vn n (fun k => x * f k + g k) a = x * vn n f a + vn n g a
  | 0, f, g => by simp [vn]
  | n + 1, f, g => by
    simp only [vn]
    rw [vn_lin n]
    grind
theorem vn_prod (a : Int) (q : List Int) : ∀ (p : List Int) (N : Nat), p.length + q.length ≤ N → vn N (cm p q) a = vn p.length (cf p) a * vn q.length (cf q) a
  | [], N, h => by
    rw [vn_congr N (f := cm [] q) (g := fun _ => 0) (fun k _ => rfl), vn_zero]
    simp [vn]
  | x :: p, 0, h => by simp at h
  | x :: p, N + 1, h => by
    simp only [List.length_cons] at h
    have ih := vn_prod a q p N (by omega)
    have e1 : vn (N + 1) (cm (x :: p) q) a = (x * vn N (fun k => cf q (k + 1)) a + vn N (cm p q) a) * a + x * cf q 0 := by
      simp only [vn, cm]
      rw [vn_lin]
    have e2 : vn (N + 1) (cf q) a = vn q.length (cf q) a := vn_more _ _ (fun k hk => cf_ge hk) (by omega)
    have e3 : vn (N + 1) (cf q) a = vn N (fun k => cf q (k + 1)) a * a + cf q 0 := rfl
    have e4 : vn (x :: p).length (cf (x :: p)) a = vn p.length (cf p) a * a + x := by
      simp only [List.length_cons, vn, cf_zero]
      rw [vn_congr p.length (g := cf p) (fun k _ => cf_succ x p k)]
    rw [e1, ih, e4, ← e2, e3]
    rw [e3] at e2
    grind
/-! ### modulo P -/
theorem vn_mod {a P : Int} : ∀ (n : Nat) {f : Nat → Int}, vn n (fun k => f k % P) a % P = vn n f a % P
  | 0, f => rfl
  | n + 1, f => by
    simp only [vn]
    have ih := vn_mod (a := a) (P := P) n (f := fun k => f (k + 1))
    rw [Int.add_emod, Int.mul_emod, ih, ← Int.mul_emod, Int.emod_emod_of_dvd _ (Int.dvd_refl P), ← Int.add_emod]
abbrev PP : Int := 2147483647
/-- a residue -/
def isR (x : Int) : Prop := 0 ≤ x ∧ x < 2147483647
theorem isR_mod (x : Int) : isR (x % 2147483647) := ⟨Int.emod_nonneg _ (by omega), Int.emod_lt_of_pos _ (by omega)⟩
theorem isR_id {x : Int} (h : isR x) : x % 2147483647 = x := Int.emod_eq_of_lt h.1 h.2
def Res (p : List Int) : Prop := ∀ x ∈ p, isR x
theorem Res.nil : Res [] := fun x h => by cases h
theorem Res.cf {p : List Int} (h : Res p) (k : Nat) : isR (cf p k) := by
  by_cases hk : k < p.length
  · rw [cf_lt hk]
    exact h _ (List.getElem_mem hk)
  · rw [cf_ge (by omega)]
    exact ⟨by omega, by omega⟩
theorem Res.cons {x : Int} {p : List Int} (h : Res (x :: p)) : isR x ∧ Res p := ⟨h x List.mem_cons_self, fun y hy => h y (List.mem_cons_of_mem _ hy)⟩
theorem ext_cf {p q : List Int} (hl : p.length = q.length) (h : ∀ k, k < p.length → cf p k = cf q k) : p = q := by
  apply List.ext_getElem hl
  intro k h1 h2
  have := h k h1
  rwa [cf_lt h1, cf_lt h2] at this
/-- a list by its coefficients -/
def mk (n : Nat) (f : Nat → Int) : List Int := (List.range n).map f
theorem mk_len (n : Nat) (f : Nat → Int) : (mk n f).length = n := by simp [mk]
theorem mk_cf {n : Nat} {f : Nat → Int} {k : Nat} (h : k < n) : cf (mk n f) k = f k := by
  rw [cf_lt (by rw [mk_len]; exact h)]
  simp [mk]
theorem mk_res {n : Nat} {f : Nat → Int} (h : ∀ k, k < n → isR (f k)) : Res (mk n f) := fun x hx => by
  obtain ⟨k, hk, rfl⟩ := List.mem_map.mp hx
  exact h k (List.mem_range.mp hk)
/-- the product of two polys -/
def prL (p q : List Int) : List Int := if p = [] ∨ q = [] then [] else mk (p.length + q.length - 1) fun k => cm p q k % 2147483647
theorem prL_comm (p q : List Int) : prL p q = prL q p := by
  unfold prL
  by_cases h : p = [] ∨ q = []
  · rw [if_pos h, if_pos h.symm]
  · rw [if_neg h, if_neg (fun z => h z.symm), Nat.add_comm]
    congr 1
    funext k
    rw [cm_comm]
theorem prL_res (p q : List Int) : Res (prL p q) := by
  unfold prL
  split
  · exact Res.nil
  · exact mk_res fun k _ => isR_mod _
theorem prL_len {p q : List Int} (hp : p ≠ []) (hq : q ≠ []) : (prL p q).length = p.length + q.length - 1 := by
  unfold prL
  rw [if_neg (fun z => z.elim hp hq), mk_len]
theorem prL_le (p q : List Int) : (prL p q).length ≤ p.length + q.length := by
  unfold prL
  split
  · simp
  · rw [mk_len]; omega
theorem prL_cf (p q : List Int) (k : Nat) : cf (prL p q) k = cm p q k % 2147483647 := by
  unfold prL
  split
  · rename_i h
    rcases h with rfl | rfl
    · rfl
    · rw [cm_nil]; rfl
  · by_cases hk : k < p.length + q.length - 1
    · rw [mk_cf hk]
    · rw [cf_ge (by rw [mk_len]; omega), cm_ge p q k (by omega)]
      rfl
/-- the value -/
def vaL (p : List Int) (a : Int) : Int := vn p.length (cf p) a % 2147483647
theorem vaL_nil (a : Int) : vaL [] a = 0 := rfl
theorem vaL_cons (x : Int) (p : List Int) (a : Int) : vaL (x :: p) a = (vaL p a * a + x) % 2147483647 := by
  unfold vaL
  simp only [List.length_cons, vn, cf_zero]
  rw [vn_congr p.length (g := cf p) (fun k _ => cf_succ x p k), Int.add_emod, Int.mul_emod]
  conv => rhs; rw [Int.add_emod, Int.mul_emod, Int.emod_emod_of_dvd _ (Int.dvd_refl _)]
theorem vaL_res (p : List Int) (a : Int) : isR (vaL p a) := isR_mod _
theorem vaL_prod (p q : List Int) (a : Int) : vaL (prL p q) a = vaL p a * vaL q a % 2147483647 := by
  unfold prL
  split
  · rename_i h
    rcases h with rfl | rfl
    · rw [vaL_nil]; simp
    · rw [vaL_nil]; simp
  · unfold vaL
    rw [mk_len, vn_congr _ (g := fun k => cm p q k % 2147483647) (fun k hk => mk_cf hk), vn_mod, ← vn_more (p.length + q.length - 1) (p.length + q.length) (fun k hk => cm_ge p q k (by omega)) (by omega), vn_prod a q p _ (Nat.le_refl _), Int.mul_emod]
/-- last noughts put aside -/
def cuL : List Int → List Int
  | [] => []
  | x :: p => match cuL p with
    | [] => if x = 0 then [] else [x]
    | y :: r => x :: y :: r
theorem cuL_le : ∀ p : List Int, (cuL p).length ≤ p.length
  | [] => Nat.le_refl _
  | x :: p => by
    have ih := cuL_le p
    unfold cuL
    split
    · split <;> simp
    · rename_i h
      rw [h] at ih
      simp at ih ⊢
      omega
theorem cuL_cf : ∀ (p : List Int) (k : Nat), cf (cuL p) k = cf p k
  | [], k => rfl
  | x :: p, k => by
    have ih := cuL_cf p
    unfold cuL
    split
    · rename_i h
      rw [h] at ih
      cases k with
      | zero => split <;> simp_all [cf]
      | succ k =>
        rw [cf_succ, ← ih k]
        split <;> simp [cf]
    · rename_i h
      rw [h] at ih
      cases k with
      | zero => rfl
      | succ k => rw [cf_succ, cf_succ, ih]
theorem cuL_last : ∀ (p : List Int), cuL p = [] ∨ cf (cuL p) ((cuL p).length - 1) ≠ 0
  | [] => .inl rfl
  | x :: p => by
    have ih := cuL_last p
    unfold cuL
    split
    · split
      · exact .inl rfl
      · rename_i h
        exact .inr h
    · rename_i h
      rw [h] at ih
      refine .inr ?_
      rcases ih with ih | ih
      · cases ih
      · simpa [cf_succ] using ih
theorem cuL_res {p : List Int} (h : Res p) : Res (cuL p) := fun x hx => by
  obtain ⟨k, hk, rfl⟩ := List.getElem_of_mem hx
  have := h.cf k
  rwa [← cuL_cf, cf_lt hk] at this
/-- there is just one with these coefficients and no last nought -/
theorem cut_one {p q : List Int} (hp : p = [] ∨ cf p (p.length - 1) ≠ 0) (hq : q = [] ∨ cf q (q.length - 1) ≠ 0) (h : ∀ k, cf p k = cf q k) : p = q := by
  have key : ∀ p q : List Int, (p = [] ∨ cf p (p.length - 1) ≠ 0) → (∀ k, cf p k = cf q k) → p.length ≤ q.length := fun p q hp h => by
    rcases hp with rfl | hp
    · simp
    · by_cases hl : p.length ≤ q.length
      · exact hl
      · exfalso
        apply hp
        rw [h]
        exact cf_ge (by omega)
  exact ext_cf (Nat.le_antisymm (key p q hp h) (key q p hq fun k => (h k).symm)) fun k _ => h k
theorem cm_zeros (q : List Int) (p : List Int) (k : Nat) : ∀ z, cm (p ++ List.replicate z 0) q k = cm p q k
  | 0 => by simp
  | z + 1 => by
    rw [List.replicate_succ', ← List.append_assoc, cm_snoc, cm_zeros q p k z]
    simp
theorem cuL_zeros (p : List Int) : p = cuL p ++ List.replicate (p.length - (cuL p).length) 0 := by
  have hl := cuL_le p
  apply ext_cf (by simp; omega)
  intro k hk
  by_cases h : k < (cuL p).length
  · have : cf (cuL p ++ List.replicate (p.length - (cuL p).length) 0) k = cf (cuL p) k := by
      unfold cf
      rw [List.getElem?_append_left h]
    rw [this, cuL_cf]
  · have : cf (cuL p ++ List.replicate (p.length - (cuL p).length) 0) k = 0 := by
      unfold cf
      rw [List.getElem?_append_right (by omega), List.getElem?_replicate]
      split <;> rfl
    rw [this, ← cuL_cf, cf_ge (by omega)]
theorem cm_cut (p q : List Int) (k : Nat) : cm p q k = cm (cuL p) (cuL q) k := by
  have e1 : ∀ p q : List Int, cm p q k = cm (cuL p) q k := fun p q => by
    conv => lhs; rw [cuL_zeros p]
    exact cm_zeros q (cuL p) k _
  rw [e1, cm_comm, e1, cm_comm]
/-! ### division -/
/-- b times x put upon r from at on -/
def adL (r : List Int) (at' : Nat) (x : Int) (b : List Int) : List Int := mk r.length fun k => if at' ≤ k ∧ k < at' + b.length then (cf r k + x * cf b (k - at')) % 2147483647 else cf r k
theorem adL_len (r : List Int) (at' : Nat) (x : Int) (b : List Int) : (adL r at' x b).length = r.length := mk_len _ _
theorem adL_res {r : List Int} (at' : Nat) (x : Int) (b : List Int) (h : Res r) : Res (adL r at' x b) := mk_res fun k hk => by
  split
  · exact isR_mod _
  · exact h.cf k
theorem adL_cf {r : List Int} {at' : Nat} {x : Int} {b : List Int} (k : Nat) (h : at' + b.length ≤ r.length) : cf (adL r at' x b) k = if at' ≤ k ∧ k < at' + b.length then (cf r k + x * cf b (k - at')) % 2147483647 else cf r k := by
  by_cases hk : k < r.length
  · exact mk_cf hk
  · rw [cf_ge (by rw [adL_len]; omega), if_neg (by omega), cf_ge (by omega)]
/-- the number, the rest, after so many steps -/
def dvR (b : List Int) (iv : Int) (r : List Int) : Nat → List Int
  | 0 => r
  | s + 1 => adL (dvR b iv r s) (r.length + 1 - b.length - s - 1) (-(cf (dvR b iv r s) (r.length + 1 - b.length - s - 1 + b.length - 1) * iv % 2147483647)) b
def dvX (b : List Int) (iv : Int) (r : List Int) (s : Nat) : Int := cf (dvR b iv r s) (r.length + 1 - b.length - s - 1 + b.length - 1) * iv % 2147483647
theorem dvR_succ (b : List Int) (iv : Int) (r : List Int) (s : Nat) : dvR b iv r (s + 1) = adL (dvR b iv r s) (r.length + 1 - b.length - s - 1) (-(dvX b iv r s)) b := rfl
theorem dvR_len (b : List Int) (iv : Int) (r : List Int) : ∀ s, (dvR b iv r s).length = r.length
  | 0 => rfl
  | s + 1 => by rw [dvR_succ, adL_len, dvR_len b iv r s]
theorem dvR_res {b : List Int} {iv : Int} {r : List Int} (h : Res r) : ∀ s, Res (dvR b iv r s)
  | 0 => h
  | s + 1 => by rw [dvR_succ]; exact adL_res _ _ _ (dvR_res h s)
def dvQ (b : List Int) (iv : Int) (r : List Int) : List Int := ((List.range (r.length + 1 - b.length)).map (dvX b iv r)).reverse
theorem dv_exact {b q r : List Int} {iv : Int} (hb : b ≠ []) (hq : Res q) (hi : cf b (b.length - 1) * iv % 2147483647 = 1) (hl : r.length + 1 - b.length = q.length) (hr : b.length ≤ r.length + 1) (hc : ∀ k, cf r k = cm q b k % 2147483647) :
    ∀ s, s ≤ q.length → (∀ k, cf (dvR b iv r s) k = cm (q.take (q.length - s)) b k % 2147483647) ∧ (∀ t, t < s → dvX b iv r t = cf q (q.length - t - 1))
  | 0, _ => ⟨fun k => by rw [Nat.sub_zero, List.take_length]; exact hc k, fun t ht => by omega⟩
  | s + 1, hs => by
    obtain ⟨ih1, ih2⟩ := dv_exact hb hq hi hl hr hc s (by omega)
    have b1 := List.length_pos_iff.mpr hb
    obtain ⟨n, hn⟩ : ∃ n, n = q.length - s - 1 := ⟨_, rfl⟩
    have e1 : q.length - s = n + 1 := by omega
    have e2 : q.length - (s + 1) = n := by omega
    have hnl : n < q.length := by omega
    have et : q.take (n + 1) = q.take n ++ [cf q n] := by
      rw [List.take_add_one, cf_lt hnl, List.getElem?_eq_getElem hnl]
      rfl
    have sn : ∀ k, cm (q.take (n + 1)) b k = cm (q.take n) b k + if n ≤ k then cf q n * cf b (k - n) else 0 := fun k => by
      rw [et, cm_snoc, List.length_take, Nat.min_eq_left (by omega)]
    have ex : dvX b iv r s = cf q n := by
      unfold dvX
      rw [hl, ih1, e1, sn, if_pos (by omega), cm_ge (q.take n) b _ (by rw [List.length_take, Nat.min_eq_left (by omega)]; omega)]
      have : n + 1 - 1 + b.length - 1 - n = b.length - 1 := by omega
      rw [this, Int.zero_add, Int.mul_emod, Int.emod_emod_of_dvd _ (Int.dvd_refl _), ← Int.mul_emod, Int.mul_assoc, Int.mul_emod, hi, Int.mul_one, Int.emod_emod_of_dvd _ (Int.dvd_refl _), isR_id (hq.cf n)]
    refine ⟨fun k => ?_, fun t ht => ?_⟩
    · rw [dvR_succ, ex, adL_cf k (by rw [dvR_len]; omega), hl, e1, Nat.add_sub_cancel, e2, ih1, e1, sn]
      by_cases h1 : n ≤ k ∧ k < n + b.length
      · rw [if_pos h1, if_pos h1.1]
        rw [Int.add_emod, Int.emod_emod_of_dvd _ (Int.dvd_refl _), ← Int.add_emod]
        congr 1
        grind
      · rw [if_neg h1]
        by_cases h2 : n ≤ k
        · rw [if_pos h2, cf_ge (p := b) (by omega), Int.mul_zero, Int.add_zero]
        · rw [if_neg h2, Int.add_zero]
    · by_cases h : t < s
      · exact ih2 t h
      · have : t = s := by omega
        subst this
        rw [ex, hn]
theorem dv_whole {b q r : List Int} {iv : Int} (hb : b ≠ []) (hq : Res q) (hi : cf b (b.length - 1) * iv % 2147483647 = 1) (hl : r.length + 1 - b.length = q.length) (hr : b.length ≤ r.length + 1) (hc : ∀ k, cf r k = cm q b k % 2147483647) :
    dvQ b iv r = q ∧ ∀ k, cf (dvR b iv r (r.length + 1 - b.length)) k = 0 := by
  obtain ⟨h1, h2⟩ := dv_exact hb hq hi hl hr hc q.length (Nat.le_refl _)
  refine ⟨?_, fun k => ?_⟩
  · unfold dvQ
    rw [hl]
    apply ext_cf (by simp)
    intro k hk
    simp at hk
    rw [cf_lt (by simpa using hk)]
    simp
    rw [h2 _ (by omega)]
    congr 1
    omega
  · rw [hl, h1, Nat.sub_self, List.take_zero]
    rfl
theorem take_last {p : List Int} (h : p ≠ []) : p = p.take (p.length - 1) ++ [cf p (p.length - 1)] := by
  have := List.length_pos_iff.mpr h
  have hl : p.length - 1 < p.length := by omega
  conv => lhs; rw [← List.take_length (l := p), show p.length = p.length - 1 + 1 from by omega, List.take_add_one, List.getElem?_eq_getElem hl]
  rw [cf_lt hl]
  rfl
theorem top_cm {p q : List Int} (hp : p ≠ []) (hq : q ≠ []) : cm p q (p.length + q.length - 1 - 1) = cf p (p.length - 1) * cf q (q.length - 1) := by
  have l1 := List.length_pos_iff.mpr hp
  have l2 := List.length_pos_iff.mpr hq
  conv => lhs; rw [take_last hp]
  rw [cm_snoc, cm_ge _ _ _ (by rw [List.length_take]; simp; omega), if_pos (by simp; omega), Int.zero_add]
  congr 2
  simp
  omega
theorem cut_prod {p q : List Int} {iv : Int} (h1 : Res p) (hq : cuL q ≠ []) (hi : cf (cuL q) ((cuL q).length - 1) * iv % 2147483647 = 1) : cuL (prL p q) = prL (cuL p) (cuL q) := by
  refine cut_one (cuL_last _) ?_ fun k => by rw [cuL_cf, prL_cf, prL_cf, cm_cut]
  by_cases hp : cuL p = []
  · exact .inl (by unfold prL; rw [if_pos (.inl hp)])
  · refine .inr ?_
    rw [prL_len hp hq, prL_cf, top_cm hp hq]
    intro z
    rcases cuL_last p with h | h
    · exact hp h
    · apply h
      obtain ⟨u, hu⟩ : ∃ u, u = cf (cuL p) ((cuL p).length - 1) := ⟨_, rfl⟩
      obtain ⟨v, hv⟩ : ∃ v, v = cf (cuL q) ((cuL q).length - 1) := ⟨_, rfl⟩
      have ur : isR u := by rw [hu]; exact (cuL_res h1).cf _
      rw [← hu, ← hv] at z
      rw [← hv] at hi
      rw [← hu, ← isR_id ur]
      have : u % 2147483647 = (u * v) % 2147483647 * iv % 2147483647 := by
        rw [Int.mul_emod, Int.emod_emod_of_dvd _ (Int.dvd_refl _), ← Int.mul_emod, Int.mul_assoc, Int.mul_emod, hi, Int.mul_one, Int.emod_emod_of_dvd _ (Int.dvd_refl _)]
      rw [this, z]
      simp
theorem quo_prod {p q : List Int} {iv : Int} (h1 : Res p) (hq : cuL q ≠ []) (hi : cf (cuL q) ((cuL q).length - 1) * iv % 2147483647 = 1) :
    dvQ (cuL q) iv (cuL (prL p q)) = cuL p ∧ ∀ k, cf (dvR (cuL q) iv (cuL (prL p q)) ((cuL (prL p q)).length + 1 - (cuL q).length)) k = 0 := by
  have l2 := List.length_pos_iff.mpr hq
  rw [cut_prod h1 hq hi]
  by_cases hp : cuL p = []
  · have e : prL (cuL p) (cuL q) = [] := by unfold prL; rw [if_pos (.inl hp)]
    rw [e, hp]
    have e2 : ([] : List Int).length + 1 - (cuL q).length = 0 := by simp; omega
    rw [e2]
    refine ⟨?_, fun k => rfl⟩
    unfold dvQ
    rw [e2]
    rfl
  · have l1 := List.length_pos_iff.mpr hp
    exact dv_whole hq (cuL_res h1) hi (by rw [prL_len hp hq]; omega) (by rw [prL_len hp hq]; omega) (prL_cf _ _)
/-! ### loops over numbers in their places -/
theorem set_cf {r : List Int} {i : Nat} {v : Int} (k : Nat) (h : i < r.length) : cf (r.set i v) k = if k = i then v else cf r k := by
  unfold cf
  by_cases e : k = i
  · subst e
    rw [if_pos rfl, List.getElem?_set_self h]
    rfl
  · rw [if_neg e, List.getElem?_set_ne (fun z => e z.symm)]
theorem adL_nil (r : List Int) (a : Nat) (x : Int) : adL r a x [] = r := ext_cf (adL_len _ _ _ _) fun k hk => by
  rw [adL_len] at hk
  unfold adL
  rw [mk_cf hk, if_neg (by simp)]
theorem adL_take {r b : List Int} {a k : Nat} {x : Int} (hk : k < b.length) (h : a + b.length ≤ r.length) : (adL r a x (b.take k)).set (a + k) ((cf (adL r a x (b.take k)) (a + k) + x * cf b k) % 2147483647) = adL r a x (b.take (k + 1)) := by
  have l1 : (b.take k).length = k := by rw [List.length_take]; omega
  have l2 : (b.take (k + 1)).length = k + 1 := by rw [List.length_take]; omega
  have ct : ∀ n j, j < n → cf (b.take n) j = cf b j := fun n j hj => by unfold cf; rw [List.getElem?_take_of_lt hj]
  refine ext_cf (by rw [List.length_set, adL_len, adL_len]) fun j hj => ?_
  rw [List.length_set, adL_len] at hj
  rw [set_cf _ (by rw [adL_len]; omega), adL_cf _ (by rw [l1]; omega), adL_cf _ (by rw [l1]; omega), adL_cf _ (by rw [l2]; omega), l1, l2]
  by_cases e : j = a + k
  · subst e
    rw [if_pos rfl, if_neg (by omega), if_pos (by omega), ct _ _ (by omega), show a + k - a = k by omega]
  · rw [if_neg e]
    by_cases c : a ≤ j ∧ j < a + k
    · rw [if_pos c, if_pos (by omega), ct _ _ (by omega), ct _ _ (by omega)]
    · rw [if_neg c, if_neg (by omega)]
theorem adL_zero {r b : List Int} {a : Nat} (h : Res r) : adL r a 0 b = r := ext_cf (adL_len _ _ _ _) fun k hk => by
  rw [adL_len] at hk
  unfold adL
  rw [mk_cf hk]
  split
  · rw [Int.zero_mul, Int.add_zero, isR_id (h.cf k)]
  · rfl
theorem take_snoc {p : List Int} {t : Nat} (h : t < p.length) : p.take (t + 1) = p.take t ++ [cf p t] := by
  rw [List.take_add_one, cf_lt h, List.getElem?_eq_getElem h]
  rfl
theorem prL_step {p q M : List Int} {t : Nat} (ht : t < p.length) (hl : M.length = p.length + q.length - 1) (h : ∀ k, cf M k = cm (p.take t) q k % 2147483647) : ∀ k, cf (adL M t (cf p t) q) k = cm (p.take (t + 1)) q k % 2147483647 := fun k => by
  have l1 : (p.take t).length = t := by rw [List.length_take]; omega
  rw [take_snoc ht, cm_snoc, l1]
  by_cases hk : k < M.length
  · unfold adL
    rw [mk_cf hk, h]
    by_cases c : t ≤ k ∧ k < t + q.length
    · rw [if_pos c, if_pos c.1, Int.add_emod, Int.emod_emod_of_dvd _ (Int.dvd_refl _), ← Int.add_emod]
    · rw [if_neg c]
      by_cases c1 : t ≤ k
      · rw [if_pos c1, cf_ge (p := q) (by omega), Int.mul_zero, Int.add_zero]
      · rw [if_neg c1, Int.add_zero]
  · rw [cf_ge (by rw [adL_len]; omega), cm_ge _ _ _ (by omega)]
    split
    · rw [cf_ge (p := q) (by omega), Int.mul_zero]
      rfl
    · rfl
theorem prL_end {p q M : List Int} (hp : p ≠ []) (hq : q ≠ []) (hl : M.length = p.length + q.length - 1) (h : ∀ k, cf M k = cm (p.take p.length) q k % 2147483647) : M = prL p q := ext_cf (by rw [hl, prL_len hp hq]) fun k _ => by
  rw [h, List.take_length, prL_cf]
theorem cf_res {M : List Int} (h : ∀ k, isR (cf M k)) : Res M := fun x hx => by
  obtain ⟨k, hk, rfl⟩ := List.getElem_of_mem hx
  have := h k
  rwa [cf_lt hk] at this
theorem zeros_cf (n k : Nat) : cf (List.replicate n 0) k = 0 := by
  unfold cf
  rw [List.getElem?_replicate]
  split <;> rfl
/-! ### last noughts, one by one -/
theorem cuL_id {p : List Int} (h : p = [] ∨ cf p (p.length - 1) ≠ 0) : cuL p = p := cut_one (cuL_last p) h (cuL_cf p)
theorem cuL_snoc (p : List Int) : cuL (p ++ [0]) = cuL p := cut_one (cuL_last _) (cuL_last _) fun k => by
  rw [cuL_cf, cuL_cf]
  unfold cf
  by_cases h : k < p.length
  · rw [List.getElem?_append_left h]
  · rw [List.getElem?_append_right (by omega), List.getElem?_eq_none (by omega : p.length ≤ k)]
    cases k - p.length <;> rfl
theorem cuL_step {p : List Int} (h : p ≠ []) (h0 : cf p (p.length - 1) = 0) : cuL p.dropLast = cuL p := by
  have e := take_last h
  rw [h0, ← List.dropLast_eq_take] at e
  conv => rhs; rw [e]
  rw [cuL_snoc]
theorem cuL_nil {p : List Int} : cuL p = [] ↔ ∀ x ∈ p, x = 0 := by
  constructor
  · intro h x hx
    obtain ⟨k, hk, rfl⟩ := List.getElem_of_mem hx
    rw [← cf_lt hk, ← cuL_cf, h]
    rfl
  · intro h
    rcases cuL_last p with e | e
    · exact e
    · exfalso
      apply e
      rw [cuL_cf]
      unfold cf
      cases hc : p[(cuL p).length - 1]? with
      | none => rfl
      | some x => exact h x (List.mem_of_getElem? hc)
/-- the quotient, None -/
def quL (p q : List Int) (iv : Int) : Option (List Int) := if cuL (dvR (cuL q) iv (cuL p) ((cuL p).length + 1 - (cuL q).length)) = [] then some (dvQ (cuL q) iv (cuL p)) else none
theorem quL_prod {p q : List Int} {iv : Int} (h1 : Res p) (hq : cuL q ≠ []) (hi : cf (cuL q) ((cuL q).length - 1) * iv % 2147483647 = 1) : quL (prL p q) q iv = some (cuL p) := by
  obtain ⟨e1, e2⟩ := quo_prod h1 hq hi
  unfold quL
  rw [e1, if_pos]
  exact cuL_nil.mpr fun x hx => by
    obtain ⟨k, hk, rfl⟩ := List.getElem_of_mem hx
    rw [← cf_lt hk]
    exact e2 k
theorem dvX_res (b : List Int) (iv : Int) (r : List Int) (s : Nat) : isR (dvX b iv r s) := isR_mod _
theorem dvQ_res (b : List Int) (iv : Int) (r : List Int) : Res (dvQ b iv r) := fun x hx => by
  unfold dvQ at hx
  rw [List.mem_reverse] at hx
  obtain ⟨k, _, rfl⟩ := List.mem_map.mp hx
  exact dvX_res _ _ _ _
theorem dvQ_len (b : List Int) (iv : Int) (r : List Int) : (dvQ b iv r).length = r.length + 1 - b.length := by
  unfold dvQ
  simp
end Num
end

section
set_option Elab.async false
set_option linter.all false
set_option maxRecDepth 100000
set_option maxHeartbeats 1000000
namespace Law
open Y
/-! ### powers, inverses -/
abbrev pwT : Den Bool := tst (bin gtD (nm 1) (cst (.int 0)))
abbrev pwB : SDen := sq (sSet 2 (ifE (tst (bin eqD (bin modD (nm 1) (cst (.int 2))) (cst (.int 1)))) (bin modD (bin mulD (nm 2) (nm 0)) (cst (.int 2147483647))) (vl 2)))
    (sPar 0 1 (acons (bin modD (bin mulD (nm 0) (nm 0)) (cst (.int 2147483647))) (acons (bin fdivD (nm 1) (cst (.int 2))) (anil))))
theorem pw_body {a e f : Int} (ha : 0 ≤ a ∧ a < 2147483647) (hf : 0 ≤ f ∧ f < 2147483647) : pwB [.int a, .int e, .int f] = .nx [.int (a * a % 2147483647), .int (e / 2), .int (if e % 2 = 1 then f * a % 2147483647 else f)] := by
  have m1 : mulC f a = true := mulC_r (by omega) (by omega)
  have m2 : mulC a a = true := mulC_r (by omega) (by omega)
  have fd : fdivC e 2 = true := rfl
  by_cases h : e % 2 = 1 <;> simp [pwB, nk0, fnD, outD, sq, sRet, sIf, sNil, sExpr, sSet, sPar, sPar3, sAsg, sSto, putAt, onE, onT, andV, orV, notV, andT, orT, notT, ifE, tst, Rz.bind, nm, vl, cst, bin, uno, chn, dsp, acons, anil, callD, okA, lendD, wbD, runL, mtD, appL, extL, popL, Hdl.get, valsOf, D.nks, D.nk, D.pl, D.pls, D.frz, D.frzs, nkU, isiD, isiB, iop, iopC, ltD, leD, gtD, geD, addD, subD, mulD, modD, fdivD, negD, modC, isND, notND, isNB, ixD, plO, gN, gT, gU, gC, gNo, lamD, frzAll, cloOf, onlyD, fz, astar, sRaise, eqD, eqB, h, m1, m2, fd]
theorem pw_test {a e f : Int} : pwT [.int a, .int e, .int f] = .ok (decide (0 < e)) [.int a, .int e, .int f] := by
  simp [pwT, nk0, fnD, outD, sq, sRet, sIf, sNil, sExpr, sSet, sPar, sPar3, sAsg, sSto, putAt, onE, onT, andV, orV, notV, andT, orT, notT, ifE, tst, Rz.bind, nm, vl, cst, bin, uno, chn, dsp, acons, anil, callD, okA, lendD, wbD, runL, mtD, appL, extL, popL, Hdl.get, valsOf, D.nks, D.nk, D.pl, D.pls, D.frz, D.frzs, nkU, isiD, isiB, iop, iopC, ltD, leD, gtD, geD, addD, subD, mulD, modD, fdivD, negD, modC, isND, notND, isNB, ixD, plO, gN, gT, gU, gC, gNo, lamD, frzAll, cloOf, onlyD, fz, astar, sRaise]
theorem pw_loop : ∀ (n m e a f : Nat), e < 2 ^ n → n < m → a < 2147483647 → f < 2147483647 → ∃ a' : Int, sWhile m pwT pwB [.int a, .int e, .int f] = .nx [.int a', .int 0, .int ((f * a ^ e % 2147483647 : Nat) : Int)]
  | n, 0, e, a, f, h1, h2, ha, hf => by omega
  | 0, m + 1, e, a, f, h1, h2, ha, hf => by
    have e0 : e = 0 := by simpa using h1
    subst e0
    refine ⟨a, ?_⟩
    rw [sWhile_stop (τ1 := [.int a, .int (0 : Nat), .int f]) (by rw [pw_test]; rfl), Nat.pow_zero, Nat.mul_one, Nat.mod_eq_of_lt hf]
    rfl
  | n + 1, m + 1, e, a, f, h1, h2, ha, hf => by
    by_cases e0 : e = 0
    · subst e0
      refine ⟨a, ?_⟩
      rw [sWhile_stop (τ1 := [.int a, .int (0 : Nat), .int f]) (by rw [pw_test]; rfl), Nat.pow_zero, Nat.mul_one, Nat.mod_eq_of_lt hf]
      rfl
    · have he : e / 2 < 2 ^ n := by rw [Nat.pow_succ] at h1; omega
      obtain ⟨f', hf'⟩ : ∃ f' : Nat, f' = if e % 2 = 1 then f * a % 2147483647 else f := ⟨_, rfl⟩
      have lf : f' < 2147483647 := by
        rw [hf']
        split
        · exact Nat.mod_lt _ (by omega)
        · exact hf
      obtain ⟨a', ih⟩ := pw_loop n m (e / 2) (a * a % 2147483647) f' he (by omega) (Nat.mod_lt _ (by omega)) lf
      refine ⟨a', ?_⟩
      have pos : decide ((0 : Int) < (e : Int)) = true := decide_eq_true (by omega)
      rw [sWhile_go (by rw [pw_test, pos]) (pw_body ⟨by omega, by omega⟩ ⟨by omega, by omega⟩)]
      have c1 : ((a : Int) * a % 2147483647) = ((a * a % 2147483647 : Nat) : Int) := by simp
      have c2 : ((e : Int) / 2) = ((e / 2 : Nat) : Int) := by simp
      have c3 : (if (e : Int) % 2 = 1 then (f : Int) * a % 2147483647 else f) = (f' : Int) := by
        rw [hf']
        by_cases h : e % 2 = 1
        · rw [if_pos h, if_pos (by omega)]
          simp
        · rw [if_neg h, if_neg (by omega)]
      rw [c1, c2, c3, ih]
      have key : f' * (a * a % 2147483647) ^ (e / 2) % 2147483647 = f * a ^ e % 2147483647 := by
        rw [Nat.mul_mod, Nat.pow_mod, Nat.mod_mod, ← Nat.pow_mod, ← Nat.mul_mod]
        have pe : a ^ e = a ^ (e % 2) * (a * a) ^ (e / 2) := by
          rw [← Nat.pow_two, ← Nat.pow_mul, ← Nat.pow_add]
          congr 1
          omega
        rw [pe, hf']
        by_cases h : e % 2 = 1
        · rw [if_pos h, h, Nat.pow_one, ← Nat.mul_assoc, Nat.mod_mul_mod]
        · have h0 : e % 2 = 0 := by omega
          rw [if_neg h, h0, Nat.pow_zero, Nat.one_mul]
      rw [key]
theorem power_int {a e : Nat} (ha : a < 2147483647) (he : e < 2 ^ 64) : d_power [.int a, .int e] = .ok (.int ((a ^ e % 2147483647 : Nat) : Int)) [.un, .un] := by
  obtain ⟨a', h⟩ := pw_loop 64 1000 e a 1 he (by omega) ha (by omega)
  rw [Nat.one_mul] at h
  have h2 : sWhile 1000 pwT pwB [.int a, .int e, .int 1] = .nx [.int a', .int 0, .int ((a ^ e % 2147483647 : Nat) : Int)] := h
  have h3 : b_power [.int a, .int e, .un] = .rt (.int ((a ^ e % 2147483647 : Nat) : Int)) [.int a', .int 0, .un] := by
    show sq (sSet 2 (cst (.int 1))) (sq (sWhile 1000 pwT pwB) (sRet (nm 2))) [.int a, .int e, .un] = _
    simp only [sq, sSet, cst, onE, List.set]
    rw [h2]
    rfl
  show nk0 (fnD 2 3 fx_power b_power) [.int a, .int e] = _
  have h4 : fnD 2 3 fx_power b_power [.int a, .int e] = .ok (.int ((a ^ e % 2147483647 : Nat) : Int)) [.un, .un] := by
    unfold fnD
    rw [if_pos (by rfl)]
    show (match b_power [.int a, .int e, .un] with
      | .nx τ => _
      | .rt d τ => _
      | .ex n d _ => _
      | _ => _) = _
    rw [h3]
    rfl
  unfold nk0
  rw [if_pos (by rfl), h4]
  rfl
theorem o_inverse_of {x v : Int} {g : List D → Rt} (c1 : g [.int x, .int 2147483645] = .ok (.int v) [.un, .un]) : nk0 (fnD 1 1 fx_inverse_of (B_inverse_of g)) [.int x] = .ok (.int v) [.int x] := by
  simp [B_inverse_of, fx_inverse_of, nk0, fnD, outD, sq, sRet, sIf, sNil, sExpr, sSet, sPar, sPar3, sAsg, sSto, putAt, onE, onT, andV, orV, notV, andT, orT, notT, ifE, tst, Rz.bind, nm, vl, cst, bin, uno, chn, dsp, acons, anil, callD, okA, lendD, wbD, runL, mtD, appL, extL, popL, Hdl.get, valsOf, D.nks, D.nk, D.pl, D.pls, D.frz, D.frzs, nkU, isiD, isiB, iop, iopC, ltD, leD, gtD, geD, addD, subD, mulD, modD, fdivD, negD, modC, isND, notND, isNB, ixD, plO, gN, gT, gU, gC, gNo, lamD, frzAll, cloOf, onlyD, fz, astar, sRaise, c1]
/-! ### the law's own power -/
abbrev pw2T : Den Bool := tst (bin gtD (nm 4) (cst (.int 0)))
abbrev pw2B : SDen := sq (sSet 2 (ifE (tst (bin eqD (bin modD (nm 4) (cst (.int 2))) (cst (.int 1)))) (bin modD (uno intD (bin mulD (nm 2) (nm 3))) (cst (.int 2147483647))) (vl 2)))
    (sPar 3 4 (acons (bin modD (uno intD (bin mulD (nm 3) (nm 3))) (cst (.int 2147483647))) (acons (bin fdivD (nm 4) (cst (.int 2))) (anil))))
theorem pw2_body {x y : D} {a e f : Int} (ha : 0 ≤ a ∧ a < 2147483647) (hf : 0 ≤ f ∧ f < 2147483647) : pw2B [x, y, .int f, .int a, .int e] = .nx [x, y, .int (if e % 2 = 1 then f * a % 2147483647 else f), .int (a * a % 2147483647), .int (e / 2)] := by
  have m1 : mulC f a = true := mulC_r (by omega) (by omega)
  have m2 : mulC a a = true := mulC_r (by omega) (by omega)
  have fd : fdivC e 2 = true := rfl
  by_cases h : e % 2 = 1 <;> simp [pw2B, nk0, fnD, outD, sq, sRet, sIf, sNil, sExpr, sSet, sPar, sPar3, sAsg, sSto, putAt, onE, onT, andV, orV, notV, andT, orT, notT, ifE, tst, Rz.bind, nm, vl, cst, bin, uno, chn, dsp, acons, anil, callD, okA, lendD, wbD, runL, mtD, appL, extL, popL, Hdl.get, valsOf, D.nks, D.nk, D.pl, D.pls, D.frz, D.frzs, nkU, isiD, isiB, iop, iopC, ltD, leD, gtD, geD, addD, subD, mulD, modD, fdivD, negD, modC, isND, notND, isNB, ixD, plO, gN, gT, gU, gC, gNo, lamD, frzAll, cloOf, onlyD, fz, astar, sRaise, intD, eqD, eqB, h, m1, m2, fd]
theorem pw2_test {x y : D} {a e f : Int} : pw2T [x, y, .int f, .int a, .int e] = .ok (decide (0 < e)) [x, y, .int f, .int a, .int e] := by
  simp [pw2T, nk0, fnD, outD, sq, sRet, sIf, sNil, sExpr, sSet, sPar, sPar3, sAsg, sSto, putAt, onE, onT, andV, orV, notV, andT, orT, notT, ifE, tst, Rz.bind, nm, vl, cst, bin, uno, chn, dsp, acons, anil, callD, okA, lendD, wbD, runL, mtD, appL, extL, popL, Hdl.get, valsOf, D.nks, D.nk, D.pl, D.pls, D.frz, D.frzs, nkU, isiD, isiB, iop, iopC, ltD, leD, gtD, geD, addD, subD, mulD, modD, fdivD, negD, modC, isND, notND, isNB, ixD, plO, gN, gT, gU, gC, gNo, lamD, frzAll, cloOf, onlyD, fz, astar, sRaise]
theorem pw2_loop : ∀ {x y : D} (n m e a f : Nat), e < 2 ^ n → n < m → a < 2147483647 → f < 2147483647 → ∃ a' : Int, sWhile m pw2T pw2B [x, y, .int f, .int a, .int e] = .nx [x, y, .int ((f * a ^ e % 2147483647 : Nat) : Int), .int a', .int 0]
  | x, y, n, 0, e, a, f, h1, h2, ha, hf => by omega
  | x, y, 0, m + 1, e, a, f, h1, h2, ha, hf => by
    have e0 : e = 0 := by simpa using h1
    subst e0
    refine ⟨a, ?_⟩
    rw [sWhile_stop (τ1 := [x, y, .int f, .int a, .int (0 : Nat)]) (by rw [pw2_test]; rfl), Nat.pow_zero, Nat.mul_one, Nat.mod_eq_of_lt hf]
    rfl
  | x, y, n + 1, m + 1, e, a, f, h1, h2, ha, hf => by
    by_cases e0 : e = 0
    · subst e0
      refine ⟨a, ?_⟩
      rw [sWhile_stop (τ1 := [x, y, .int f, .int a, .int (0 : Nat)]) (by rw [pw2_test]; rfl), Nat.pow_zero, Nat.mul_one, Nat.mod_eq_of_lt hf]
      rfl
    · have he : e / 2 < 2 ^ n := by rw [Nat.pow_succ] at h1; omega
      obtain ⟨f', hf'⟩ : ∃ f' : Nat, f' = if e % 2 = 1 then f * a % 2147483647 else f := ⟨_, rfl⟩
      have lf : f' < 2147483647 := by
        rw [hf']
        split
        · exact Nat.mod_lt _ (by omega)
        · exact hf
      obtain ⟨a', ih⟩ := pw2_loop (x := x) (y := y) n m (e / 2) (a * a % 2147483647) f' he (by omega) (Nat.mod_lt _ (by omega)) lf
      refine ⟨a', ?_⟩
      have pos : decide ((0 : Int) < (e : Int)) = true := decide_eq_true (by omega)
      rw [sWhile_go (by rw [pw2_test, pos]) (pw2_body ⟨by omega, by omega⟩ ⟨by omega, by omega⟩)]
      have c1 : ((a : Int) * a % 2147483647) = ((a * a % 2147483647 : Nat) : Int) := by simp
      have c2 : ((e : Int) / 2) = ((e / 2 : Nat) : Int) := by simp
      have c3 : (if (e : Int) % 2 = 1 then (f : Int) * a % 2147483647 else f) = (f' : Int) := by
        rw [hf']
        by_cases h : e % 2 = 1
        · rw [if_pos h, if_pos (by omega)]
          simp
        · rw [if_neg h, if_neg (by omega)]
      rw [c1, c2, c3, ih]
      have key : f' * (a * a % 2147483647) ^ (e / 2) % 2147483647 = f * a ^ e % 2147483647 := by
        rw [Nat.mul_mod, Nat.pow_mod, Nat.mod_mod, ← Nat.pow_mod, ← Nat.mul_mod]
        have pe : a ^ e = a ^ (e % 2) * (a * a) ^ (e / 2) := by
          rw [← Nat.pow_two, ← Nat.pow_mul, ← Nat.pow_add]
          congr 1
          omega
        rw [pe, hf']
        by_cases h : e % 2 = 1
        · rw [if_pos h, h, Nat.pow_one, ← Nat.mul_assoc, Nat.mod_mul_mod]
        · have h0 : e % 2 = 0 := by omega
          rw [if_neg h, h0, Nat.pow_zero, Nat.one_mul]
      rw [key]
theorem own_power {a e : Nat} (ha : a < 2147483647) (he : e < 2 ^ 64) : d_law_c2_power [.int a, .int e] = .ok (.int ((a ^ e % 2147483647 : Nat) : Int)) [.int a, .int e] := by
  obtain ⟨a', h⟩ := pw2_loop (x := .int a) (y := .int e) 64 1000 e a 1 he (by omega) ha (by omega)
  rw [Nat.one_mul] at h
  have h2 : sWhile 1000 pw2T pw2B [.int a, .int e, .int 1, .int a, .int e] = .nx [.int a, .int e, .int ((a ^ e % 2147483647 : Nat) : Int), .int a', .int 0] := h
  have h3 : b_law_c2_power [.int a, .int e, .un, .un, .un] = .rt (.int ((a ^ e % 2147483647 : Nat) : Int)) [.int a, .int e, .un, .int a', .int 0] := by
    show sq (sPar3 2 3 4 (acons (cst (.int 1)) (acons (uno intD (nm 0)) (acons (uno intD (nm 1)) (anil))))) (sq (sWhile 1000 pw2T pw2B) (sRet (nm 2))) [.int a, .int e, .un, .un, .un] = _
    have e0 : sPar3 2 3 4 (acons (cst (.int 1)) (acons (uno intD (nm 0)) (acons (uno intD (nm 1)) (anil)))) [.int a, .int e, .un, .un, .un] = .nx [.int a, .int e, .int 1, .int a, .int e] := by simp [nk0, fnD, outD, sq, sRet, sIf, sNil, sExpr, sSet, sPar, sPar3, sAsg, sSto, putAt, onE, onT, andV, orV, notV, andT, orT, notT, ifE, tst, Rz.bind, nm, vl, cst, bin, uno, chn, dsp, acons, anil, callD, okA, lendD, wbD, runL, mtD, appL, extL, popL, Hdl.get, valsOf, D.nks, D.nk, D.pl, D.pls, D.frz, D.frzs, nkU, isiD, isiB, iop, iopC, ltD, leD, gtD, geD, addD, subD, mulD, modD, fdivD, negD, modC, isND, notND, isNB, ixD, plO, gN, gT, gU, gC, gNo, lamD, frzAll, cloOf, onlyD, fz, astar, sRaise, intD]
    rw [sq_nx e0, sq_nx h2]
    rfl
  exact (nk0_ok rfl rfl h3 rfl (by simp [outD, fx_law_c2_power, nkU, D.nk])).trans (by simp [outD, fx_law_c2_power])
/-- one number, told by both, that times the last one is 1 -/
theorem inv_ex {l : Int} (h : Num.isR l) (h0 : l ≠ 0) : ∃ iv : Int, Num.isR iv ∧ l * iv % 2147483647 = 1 ∧ d_inverse_of [.int l] = .ok (.int iv) [.int l] ∧ d_law_c2_power [.int l, .int 2147483645] = .ok (.int iv) [.int l, .int 2147483645] := by
  obtain ⟨a, rfl⟩ : ∃ a : Nat, l = (a : Int) := ⟨l.toNat, by have := h.1; omega⟩
  have h1 : 1 ≤ a := by omega
  have ha : a < 2147483647 := by have := h.2; omega
  obtain ⟨e, he⟩ : ∃ e : Nat, e = 2147483645 := ⟨_, rfl⟩
  have hp := power_int (e := e) ha (by rw [he]; decide)
  have hp2 := own_power (e := e) ha (by rw [he]; decide)
  obtain ⟨v, hv⟩ : ∃ v : Nat, v = a ^ e % 2147483647 := ⟨_, rfl⟩
  have ce : ((e : Nat) : Int) = 2147483645 := by omega
  rw [← hv, ce] at hp hp2
  have lv : v < 2147483647 := by rw [hv]; exact Nat.mod_lt _ (by omega)
  refine ⟨v, ⟨by omega, by omega⟩, ?_, o_inverse_of (g := d_power) hp, hp2⟩
  have f := Num.fermat (e := e + 1) (by omega) h1 ha
  have q : a * v % 2147483647 = 1 := by
    rw [hv, Nat.mul_mod, Nat.mod_mod, ← Nat.mul_mod, Nat.mul_comm, ← Nat.pow_succ]
    exact f
  have : (((a * v % 2147483647 : Nat)) : Int) = ((1 : Nat) : Int) := by rw [q]
  simpa using this
end Law
end

section
set_option Elab.async false
set_option linter.all false
set_option maxRecDepth 100000
set_option maxHeartbeats 4000000
namespace Law
open Y
/-! ### residues, faults of what is to be a poly: of any thing -/
def isRes (x : D) : Bool := match x with
  | .int i => decide (0 ≤ i) && decide (i < 2147483647)
  | _ => false
theorem res_wh (x : D) : wh x 0 2147483646 = isRes x := by
  cases x <;> first | rfl | skip
  rename_i i
  show (decide (0 ≤ i) && decide (i ≤ 2147483646)) = (decide (0 ≤ i) && decide (i < 2147483647))
  congr 1
  exact decide_eq_decide.mpr (by omega)
theorem is_residue_any {x : D} (h : gd x = true) : d_is_residue [x] = .ok (.bl (isRes x)) [x] := by
  have e := gd_ok h
  cases x <;> first
    | (cases h; done)
    | (simp [d_is_residue, b_is_residue, fx_is_residue, nk0, fnD, outD, sq, sRet, sIf, sNil, sExpr, sSet, sPar, sPar3, sAsg, sSto, putAt, onE, onT, andV, orV, notV, andT, orT, notT, ifE, tst, Rz.bind, nm, vl, cst, bin, uno, chn, dsp, acons, anil, callD, okA, lendD, wbD, runL, mtD, appL, extL, popL, Hdl.get, valsOf, D.nks, D.nk, D.pl, D.pls, D.frz, D.frzs, nkU, isiD, isiB, iop, iopC, ltD, leD, gtD, geD, addD, subD, mulD, modD, fdivD, negD, modC, isND, notND, isNB, ixD, plO, gN, gT, gU, gC, gNo, lamD, frzAll, cloOf, onlyD, fz, astar, sRaise, isRes]; done)
    | (rename_i i; by_cases h1 : 0 ≤ i <;> simp [d_is_residue, b_is_residue, fx_is_residue, nk0, fnD, outD, sq, sRet, sIf, sNil, sExpr, sSet, sPar, sPar3, sAsg, sSto, putAt, onE, onT, andV, orV, notV, andT, orT, notT, ifE, tst, Rz.bind, nm, vl, cst, bin, uno, chn, dsp, acons, anil, callD, okA, lendD, wbD, runL, mtD, appL, extL, popL, Hdl.get, valsOf, D.nks, D.nk, D.pl, D.pls, D.frz, D.frzs, nkU, isiD, isiB, iop, iopC, ltD, leD, gtD, geD, addD, subD, mulD, modD, fdivD, negD, modC, isND, notND, isNB, ixD, plO, gN, gT, gU, gC, gNo, lamD, frzAll, cloOf, onlyD, fz, astar, sRaise, isRes, h1]; done)
    | (have e1 := e.nk; simp only [D.nk] at e1; simp [d_is_residue, b_is_residue, fx_is_residue, nk0, fnD, outD, sq, sRet, sIf, sNil, sExpr, sSet, sPar, sPar3, sAsg, sSto, putAt, onE, onT, andV, orV, notV, andT, orT, notT, ifE, tst, Rz.bind, nm, vl, cst, bin, uno, chn, dsp, acons, anil, callD, okA, lendD, wbD, runL, mtD, appL, extL, popL, Hdl.get, valsOf, D.nks, D.nk, D.pl, D.pls, D.frz, D.frzs, nkU, isiD, isiB, iop, iopC, ltD, leD, gtD, geD, addD, subD, mulD, modD, fdivD, negD, modC, isND, notND, isNB, ixD, plO, gN, gT, gU, gC, gNo, lamD, frzAll, cloOf, onlyD, fz, astar, sRaise, isRes, e1]; done)
    | (rename_i o ds; cases o <;> first | (cases h; done) | (have e1 := e.nk; simp only [D.nk] at e1; simp [d_is_residue, b_is_residue, fx_is_residue, nk0, fnD, outD, sq, sRet, sIf, sNil, sExpr, sSet, sPar, sPar3, sAsg, sSto, putAt, onE, onT, andV, orV, notV, andT, orT, notT, ifE, tst, Rz.bind, nm, vl, cst, bin, uno, chn, dsp, acons, anil, callD, okA, lendD, wbD, runL, mtD, appL, extL, popL, Hdl.get, valsOf, D.nks, D.nk, D.pl, D.pls, D.frz, D.frzs, nkU, isiD, isiB, iop, iopC, ltD, leD, gtD, geD, addD, subD, mulD, modD, fdivD, negD, modC, isND, notND, isNB, ixD, plO, gN, gT, gU, gC, gNo, lamD, frzAll, cloOf, onlyD, fz, astar, sRaise, isRes, e1]; done))
theorem o_own_res {x : D} {g : List D → Rt} (h : gd x = true) (c : g [x, .int 0, .int 2147483646] = .ok (.bl (wh x 0 2147483646)) [x, .int 0, .int 2147483646]) : nk0 (fnD 1 1 fx_law_yv_is_residue (B_law_yv_is_residue g)) [x] = .ok (.bl (isRes x)) [x] := by
  have e := gd_ok h
  rw [res_wh] at c
  simp [B_law_yv_is_residue, fx_law_yv_is_residue, nk0, fnD, outD, sq, ret_eq, retS, sIf, sNil, sExpr, sSet, sPar, sPar3, sAsg, sSto, putAt, onE, onT, andV, orV, notV, andT, orT, notT, ifE, tst, Rz.bind, nm_eq, vl_eq, cst, bin, uno, chn, dsp, acons, anil, callD, okA_nil, okA_val, okA_slot, lendD, wbD, runL, mtD, appL, extL, popL, Hdl.get, valsOf, D.nks, D.nk, D.pl, D.pls, D.frz, D.frzs, isiD, isiB, iop, iopC, ltD, leD, gtD, geD, addD, subD, mulD, modD, fdivD, negD, modC, isND, notND, isNB, gN, gT, gU, gC, gNo, lamD, frzAll_nil, frzAll_cons, cloOf, onlyD, fz, astar, sRaise, c, e.un, e.pl, e.nk, e.nku]
theorem own_res_any {x : D} (h : gd x = true) : d_law_yv_is_residue [x] = .ok (.bl (isRes x)) [x] := o_own_res (g := d_law_yv_is_in) h (is_in_any h)
/-- what is wrong with a thing that is to be a poly -/
def faultF (x : D) : D := match x with
  | .tup xs => if xs.length > 40 then .int (-1) else (match firstNo isRes 0 xs with
    | none => .non
    | some i => .int (i : Int))
  | _ => .int (-1)
theorem faultF_gd (x : D) : gd (faultF x) = true := by
  unfold faultF
  split
  · split
    · rfl
    · split <;> rfl
  · rfl
abbrev wrB (g : List D → Rt) : SDen := sIf (notT (tst (callD g (acons (nm 3) (anil))))) (sRet (nm 2)) (sNil)
theorem wr_loop {x m : D} {g : List D → Rt} (c : ∀ y, gd y = true → g [y] = .ok (.bl (isRes y)) [y]) : ∀ (rs : List D) (k : Nat) (s2 s3 : D), gds rs = true →
    match firstNo isRes k rs with
    | none => ∃ s2' s3', forL (gT 2 (gC (gN 2) (gC (gN 3) (gNo)))) (wrB g) (enumFrom' k rs) [x, m, s2, s3] = .nx [x, m, s2', s3']
    | some i => ∃ s3', forL (gT 2 (gC (gN 2) (gC (gN 3) (gNo)))) (wrB g) (enumFrom' k rs) [x, m, s2, s3] = .rt (.int (i : Int)) [x, m, .un, s3']
  | [], k, s2, s3, h => ⟨s2, s3, forL_nil⟩
  | d :: ds, k, s2, s3, h => by
    rw [gds_cons, Bool.and_eq_true] at h
    have e := gd_ok h.1
    have c1 := c d h.1
    have ha : gT 2 (gC (gN 2) (gC (gN 3) (gNo))) (.tup [.int (k : Int), d]) [x, m, s2, s3] = some [x, m, .int (k : Int), d] := by simp [gT, gC, gN, gNo]
    cases hr : isRes d with
    | true =>
      rw [hr] at c1
      have hf : firstNo isRes k (d :: ds) = firstNo isRes (k + 1) ds := by
        show (if isRes d = true then _ else _) = _
        rw [if_pos hr]
      rw [hf]
      have ih := wr_loop c ds (k + 1) (.int (k : Int)) d h.2 (x := x) (m := m)
      have hb : wrB g [x, m, .int (k : Int), d] = .nx [x, m, .int (k : Int), d] := by
        simp [wrB, nk0, fnD, outD, sq, ret_eq, retS, sIf, sNil, sExpr, sSet, sPar, sPar3, sAsg, sSto, putAt, onE, onT, andV, orV, notV, andT, orT, notT, ifE, tst, Rz.bind, nm_eq, vl_eq, cst, bin, uno, chn, dsp, acons, anil, callD, okA_nil, okA_val, okA_slot, lendD, wbD, runL, mtD, appL, extL, popL, Hdl.get, valsOf, D.nks, D.nk, D.pl, D.pls, D.frz, D.frzs, isiD, isiB, iop, iopC, ltD, leD, gtD, geD, addD, subD, mulD, modD, fdivD, negD, modC, isND, notND, isNB, gN, gT, gU, gC, gNo, lamD, frzAll_nil, frzAll_cons, cloOf, onlyD, fz, astar, sRaise, c1, e.un, e.pl]
      have hgo : forL (gT 2 (gC (gN 2) (gC (gN 3) (gNo)))) (wrB g) (enumFrom' k (d :: ds)) [x, m, s2, s3] = forL (gT 2 (gC (gN 2) (gC (gN 3) (gNo)))) (wrB g) (enumFrom' (k + 1) ds) [x, m, .int (k : Int), d] := forL_go ha hb
      rw [hgo]
      exact ih
    | false =>
      rw [hr] at c1
      have hf : firstNo isRes k (d :: ds) = some k := by
        show (if isRes d = true then _ else _) = _
        rw [if_neg (by rw [hr]; exact Bool.false_ne_true)]
      rw [hf]
      have hb : wrB g [x, m, .int (k : Int), d] = .rt (.int (k : Int)) [x, m, .un, d] := by
        simp [wrB, nk0, fnD, outD, sq, ret_eq, retS, sIf, sNil, sExpr, sSet, sPar, sPar3, sAsg, sSto, putAt, onE, onT, andV, orV, notV, andT, orT, notT, ifE, tst, Rz.bind, nm_eq, vl_eq, cst, bin, uno, chn, dsp, acons, anil, callD, okA_nil, okA_val, okA_slot, lendD, wbD, runL, mtD, appL, extL, popL, Hdl.get, valsOf, D.nks, D.nk, D.pl, D.pls, D.frz, D.frzs, isiD, isiB, iop, iopC, ltD, leD, gtD, geD, addD, subD, mulD, modD, fdivD, negD, modC, isND, notND, isNB, gN, gT, gU, gC, gNo, lamD, frzAll_nil, frzAll_cons, cloOf, onlyD, fz, astar, sRaise, c1, e.un, e.pl]
      exact ⟨d, forL_rt ha hb⟩
theorem o_wrong {xs : List D} {g : List D → Rt} (h : gds xs = true) (c : ∀ y, gd y = true → g [y] = .ok (.bl (isRes y)) [y]) : nk0 (fnD 2 4 fx_wrong_residues (B_wrong_residues g)) [.tup xs, .int (xs.length : Int)] = .ok (match firstNo isRes 0 xs with
    | none => .non
    | some i => .int (i : Int)) [.tup xs, .int (xs.length : Int)] := by
  obtain ⟨fr, nr, pr⟩ := gds_tup h
  have lp := wr_loop (x := .tup xs) (m := .int (xs.length : Int)) c xs 0 .un .un h
  have ex : B_wrong_residues g [.tup xs, .int (xs.length : Int), .un, .un] = (match forL (gT 2 (gC (gN 2) (gC (gN 3) (gNo)))) (wrB g) (enumFrom' 0 xs) [.tup xs, .int (xs.length : Int), .un, .un] with
    | .nx τ => sRet (cst .non) τ
    | r => r) := by
    unfold B_wrong_residues
    refine (sq_nx (τ1 := [.tup xs, .int (xs.length : Int), .un, .un]) (by simp [nk0, fnD, outD, sq, ret_eq, retS, sIf, sNil, sExpr, sSet, sPar, sPar3, sAsg, sSto, putAt, onE, onT, andV, orV, notV, andT, orT, notT, ifE, tst, Rz.bind, nm_eq, vl_eq, cst, bin, uno, chn, dsp, acons, anil, callD, okA_nil, okA_val, okA_slot, lendD, wbD, runL, mtD, appL, extL, popL, Hdl.get, valsOf, D.nks, D.nk, D.pl, D.pls, D.frz, D.frzs, isiD, isiB, iop, iopC, ltD, leD, gtD, geD, addD, subD, mulD, modD, fdivD, negD, modC, isND, notND, isNB, gN, gT, gU, gC, gNo, lamD, frzAll_nil, frzAll_cons, cloOf, onlyD, fz, astar, sRaise, lenD, neD, eqB, nr, pr])).trans ?_
    unfold sq
    rw [for_of (ds := enumFrom' 0 xs) (τ1 := [.tup xs, .int (xs.length : Int), .un, .un]) (by simp [enumS, nk0, fnD, outD, sq, ret_eq, retS, sIf, sNil, sExpr, sSet, sPar, sPar3, sAsg, sSto, putAt, onE, onT, andV, orV, notV, andT, orT, notT, ifE, tst, Rz.bind, nm_eq, vl_eq, cst, bin, uno, chn, dsp, acons, anil, callD, okA_nil, okA_val, okA_slot, lendD, wbD, runL, mtD, appL, extL, popL, Hdl.get, valsOf, D.nks, D.nk, D.pl, D.pls, D.frz, D.frzs, isiD, isiB, iop, iopC, ltD, leD, gtD, geD, addD, subD, mulD, modD, fdivD, negD, modC, isND, notND, isNB, gN, gT, gU, gC, gNo, lamD, frzAll_nil, frzAll_cons, cloOf, onlyD, fz, astar, sRaise, seqOf, fr, pr])]
    all_goals rfl
  cases hf : firstNo isRes 0 xs with
  | none =>
    rw [hf] at lp
    obtain ⟨s3, s4, lp⟩ := lp
    rw [lp] at ex
    exact (nk0_ok rfl (by simp [D.nks, D.nk, nr]) (ex.trans rfl) (by rfl) (by simp [outD, fx_wrong_residues, nkU, D.nk, D.nks, nr])).trans (by simp [outD, fx_wrong_residues])
  | some i =>
    rw [hf] at lp
    obtain ⟨s4, lp⟩ := lp
    rw [lp] at ex
    exact (nk0_ok rfl (by simp [D.nks, D.nk, nr]) (ex.trans rfl) (by rfl) (by simp [outD, fx_wrong_residues, nkU, D.nk, D.nks, nr])).trans (by simp [outD, fx_wrong_residues])
theorem wrong_any {xs : List D} (h : gds xs = true) : d_wrong_residues [.tup xs, .int (xs.length : Int)] = .ok (match firstNo isRes 0 xs with
    | none => .non
    | some i => .int (i : Int)) [.tup xs, .int (xs.length : Int)] := o_wrong (g := d_is_residue) h fun y hy => is_residue_any hy
theorem not_tup {x : D} (h : gd x = true) (ht : ¬ ∃ xs, x = .tup xs) : isiD "tuple" x = some (.bl false) := by
  cases x <;> first | (cases h; done) | rfl | exact absurd ⟨_, rfl⟩ ht
theorem fault_not {x : D} (ht : ¬ ∃ xs, x = .tup xs) : faultF x = .int (-1) := by
  cases x <;> first | rfl | exact absurd ⟨_, rfl⟩ ht
/-- made_poly of any thing -/
def MadeP (x : D) (r : Rt) : Prop := (faultF x = .non → r = .ok x [.un]) ∧ (faultF x ≠ .non → r = .ex "BadPoly" (faultF x))
theorem o_made {x : D} {g : List D → Rt} (h : gd x = true) (c : ∀ xs, gds xs = true → g [.tup xs, .int (xs.length : Int)] = .ok (match firstNo isRes 0 xs with
    | none => .non
    | some i => .int (i : Int)) [.tup xs, .int (xs.length : Int)]) : MadeP x (nk0 (fnD 1 2 fx_made_poly (B_made_poly g)) [x]) := by
  have e := gd_ok h
  by_cases ht : ∃ xs, x = .tup xs
  · obtain ⟨xs, rfl⟩ := ht
    have hx : gds xs = true := h
    obtain ⟨fr, nr, pr⟩ := gds_tup hx
    have c1 := c xs hx
    by_cases h40 : xs.length > 40
    · have r : faultF (.tup xs) = .int (-1) := if_pos h40
      have hz : (40 : Int) < (xs.length : Int) := by omega
      refine ⟨fun z => (by rw [r] at z; cases z), fun _ => ?_⟩
      rw [r]
      simp [B_made_poly, fx_made_poly, nk0, fnD, outD, sq, ret_eq, retS, sIf, sNil, sExpr, sSet, sPar, sPar3, sAsg, sSto, putAt, onE, onT, andV, orV, notV, andT, orT, notT, ifE, tst, Rz.bind, nm_eq, vl_eq, cst, bin, uno, chn, dsp, acons, anil, callD, okA_nil, okA_val, okA_slot, lendD, wbD, runL, mtD, appL, extL, popL, Hdl.get, valsOf, D.nks, D.nk, D.pl, D.pls, D.frz, D.frzs, isiD, isiB, iop, iopC, ltD, leD, gtD, geD, addD, subD, mulD, modD, fdivD, negD, modC, isND, notND, isNB, gN, gT, gU, gC, gNo, lamD, frzAll_nil, frzAll_cons, cloOf, onlyD, fz, astar, sRaise, lenD, nr, pr, hz]
    · have hz : ¬ (40 : Int) < (xs.length : Int) := by omega
      have r : faultF (.tup xs) = (match firstNo isRes 0 xs with
        | none => .non
        | some i => .int (i : Int)) := if_neg h40
      cases hf : firstNo isRes 0 xs with
      | none =>
        rw [hf] at c1 r
        refine ⟨fun _ => ?_, fun z => absurd r z⟩
        simp [B_made_poly, fx_made_poly, nk0, fnD, outD, sq, ret_eq, retS, sIf, sNil, sExpr, sSet, sPar, sPar3, sAsg, sSto, putAt, onE, onT, andV, orV, notV, andT, orT, notT, ifE, tst, Rz.bind, nm_eq, vl_eq, cst, bin, uno, chn, dsp, acons, anil, callD, okA_nil, okA_val, okA_slot, lendD, wbD, runL, mtD, appL, extL, popL, Hdl.get, valsOf, D.nks, D.nk, D.pl, D.pls, D.frz, D.frzs, isiD, isiB, iop, iopC, ltD, leD, gtD, geD, addD, subD, mulD, modD, fdivD, negD, modC, isND, notND, isNB, gN, gT, gU, gC, gNo, lamD, frzAll_nil, frzAll_cons, cloOf, onlyD, fz, astar, sRaise, lenD, nr, pr, hz, c1]
      | some i =>
        rw [hf] at c1 r
        refine ⟨fun z => (by rw [r] at z; cases z), fun _ => ?_⟩
        rw [r]
        simp [B_made_poly, fx_made_poly, nk0, fnD, outD, sq, ret_eq, retS, sIf, sNil, sExpr, sSet, sPar, sPar3, sAsg, sSto, putAt, onE, onT, andV, orV, notV, andT, orT, notT, ifE, tst, Rz.bind, nm_eq, vl_eq, cst, bin, uno, chn, dsp, acons, anil, callD, okA_nil, okA_val, okA_slot, lendD, wbD, runL, mtD, appL, extL, popL, Hdl.get, valsOf, D.nks, D.nk, D.pl, D.pls, D.frz, D.frzs, isiD, isiB, iop, iopC, ltD, leD, gtD, geD, addD, subD, mulD, modD, fdivD, negD, modC, isND, notND, isNB, gN, gT, gU, gC, gNo, lamD, frzAll_nil, frzAll_cons, cloOf, onlyD, fz, astar, sRaise, lenD, nr, pr, hz, c1]
  · have i2 := not_tup h ht
    refine ⟨fun z => (by rw [fault_not ht] at z; cases z), fun _ => ?_⟩
    rw [fault_not ht]
    simp [B_made_poly, fx_made_poly, nk0, fnD, outD, sq, ret_eq, retS, sIf, sNil, sExpr, sSet, sPar, sPar3, sAsg, sSto, putAt, onE, onT, andV, orV, notV, andT, orT, notT, ifE, tst, Rz.bind, nm_eq, vl_eq, cst, bin, uno, chn, dsp, acons, anil, callD, okA_nil, okA_val, okA_slot, lendD, wbD, runL, mtD, appL, extL, popL, Hdl.get, valsOf, D.nks, D.nk, D.pl, D.pls, D.frz, D.frzs, iop, iopC, ltD, leD, gtD, geD, addD, subD, mulD, modD, fdivD, negD, modC, isND, notND, isNB, gN, gT, gU, gC, gNo, lamD, frzAll_nil, frzAll_cons, cloOf, onlyD, fz, astar, sRaise, i2, e.un, e.pl, e.nk]
theorem made_any {x : D} (h : gd x = true) : MadeP x (d_made_poly [x]) := o_made (g := d_wrong_residues) h fun xs hx => wrong_any hx
theorem made_ok {x : D} (h : gd x = true) (hf : faultF x = .non) : d_made_poly [x] = .ok x [.un] := by
  exact (made_any h).1 hf
theorem made_ex {x : D} (h : gd x = true) (hf : faultF x ≠ .non) : d_made_poly [x] = .ex "BadPoly" (faultF x) := by
  exact (made_any h).2 hf
/-! ### the law's own fault -/
theorem own_wrong {rs : List D} {g : List D → Rt} (c : ∀ y, gd y = true → g [y] = .ok (.bl (isRes y)) [y]) (hg : gds rs = true) (hl : rs.length ≤ 1000) :
    lcE (rgS1 (uno lenD (nm 0))) (gN 2) (notT (tst (callD g (acons (bin ixD (nm 0) (nm 2)) (anil))))) (vl 2) [2] [.tup rs, .un, .un] = .ok (.val (.lst true ((badAt isRes 0 rs).map fun (k : Nat) => D.int (k : Int)))) [.tup rs, .un, .un] := by
  have hs : rgS1 (uno lenD (nm 0)) [.tup rs, .un, .un] = .ok ((List.range rs.length).map fun (k : Nat) => D.int (k : Int)) [.tup rs, .un, .un] :=
    rgS1_of (h := .val (.int (rs.length : Int))) (by simp [nk0, fnD, outD, sq, sRet, sIf, sNil, sExpr, sSet, sPar, sPar3, sAsg, sSto, putAt, onE, onT, andV, orV, notV, andT, orT, notT, ifE, tst, Rz.bind, nm, vl, cst, bin, uno, chn, dsp, acons, anil, callD, okA, lendD, wbD, runL, mtD, appL, extL, popL, Hdl.get, valsOf, D.nks, D.nk, D.pl, D.pls, D.frz, D.frzs, nkU, isiD, isiB, iop, iopC, ltD, leD, gtD, geD, addD, subD, mulD, modD, fdivD, negD, modC, isND, notND, isNB, ixD, plO, gN, gT, gU, gC, gNo, lamD, frzAll, cloOf, onlyD, fz, astar, sRaise, lenD]) rfl (by omega)
  rw [lcE_map (fun d => match d with
    | .int i => !isRes ((rs[i.toNat]?).getD .un)
    | _ => false) id hs (by simp; omega) fun d hd => ?_]
  · exact congrArg (fun L => Rz.ok (Hdl.val (D.lst true L)) [.tup rs, .un, .un]) (bad_list isRes rs)
  · obtain ⟨k, hk, rfl⟩ := List.mem_map.mp hd
    have hk := List.mem_range.mp hk
    have e := gd_ok (gds_at hg (List.getElem_mem hk))
    have ix := ixt_nat (List.getElem?_eq_getElem hk) e.pl
    have c1 := c rs[k] (gds_at hg (List.getElem_mem hk))
    refine ⟨[.tup rs, .un, .int (k : Int)], by simp [gN, wipeD], ?_, fun _ => by simp [nk0, fnD, outD, sq, sRet, sIf, sNil, sExpr, sSet, sPar, sPar3, sAsg, sSto, putAt, onE, onT, andV, orV, notV, andT, orT, notT, ifE, tst, Rz.bind, nm, vl, cst, bin, uno, chn, dsp, acons, anil, callD, okA, lendD, wbD, runL, mtD, appL, extL, popL, Hdl.get, valsOf, D.nks, D.nk, D.pl, D.pls, D.frz, D.frzs, nkU, isiD, isiB, iop, iopC, ltD, leD, gtD, geD, addD, subD, mulD, modD, fdivD, negD, modC, isND, notND, isNB, ixD, plO, gN, gT, gU, gC, gNo, lamD, frzAll, cloOf, onlyD, fz, astar, sRaise], by simp [wipeD]⟩
    simp [nk0, fnD, outD, sq, ret_eq, retS, sIf, sNil, sExpr, sSet, sPar, sPar3, sAsg, sSto, putAt, onE, onT, andV, orV, notV, andT, orT, notT, ifE, tst, Rz.bind, nm_eq, vl_eq, cst, bin, uno, chn, dsp, acons, anil, callD, okA_nil, okA_val, okA_slot, lendD, wbD, runL, mtD, appL, extL, popL, Hdl.get, valsOf, D.nks, D.nk, D.pl, D.pls, D.frz, D.frzs, isiD, isiB, iop, iopC, ltD, leD, gtD, geD, addD, subD, mulD, modD, fdivD, negD, modC, isND, notND, isNB, gN, gT, gU, gC, gNo, lamD, frzAll_nil, frzAll_cons, cloOf, onlyD, fz, astar, sRaise, ix, c1, List.getElem?_eq_getElem hk]
theorem o_own_fault {x : D} {g_law_yv_is_residue : List D → Rt} (h : gd x = true) (c : ∀ y, gd y = true → g_law_yv_is_residue [y] = .ok (.bl (isRes y)) [y]) : nk0 (fnD 1 3 fx_law_c2_fault (B_law_c2_fault g_law_yv_is_residue)) [x] = .ok (faultF x) [x] := by
  have e := gd_ok h
  by_cases ht : ∃ xs, x = .tup xs
  · obtain ⟨xs, rfl⟩ := ht
    have hx : gds xs = true := h
    obtain ⟨fr, nr, pr⟩ := gds_tup hx
    by_cases h40 : xs.length > 40
    · have r : faultF (.tup xs) = .int (-1) := if_pos h40
      have hz : (40 : Int) < (xs.length : Int) := by omega
      rw [r]
      simp [B_law_c2_fault, fx_law_c2_fault, nk0, fnD, outD, sq, ret_eq, retS, sIf, sNil, sExpr, sSet, sPar, sPar3, sAsg, sSto, putAt, onE, onT, andV, orV, notV, andT, orT, notT, ifE, tst, Rz.bind, nm_eq, vl_eq, cst, bin, uno, chn, dsp, acons, anil, callD, okA_nil, okA_val, okA_slot, lendD, wbD, runL, mtD, appL, extL, popL, Hdl.get, valsOf, D.nks, D.nk, D.pl, D.pls, D.frz, D.frzs, isiD, isiB, iop, iopC, ltD, leD, gtD, geD, addD, subD, mulD, modD, fdivD, negD, modC, isND, notND, isNB, gN, gT, gU, gC, gNo, lamD, frzAll_nil, frzAll_cons, cloOf, onlyD, fz, astar, sRaise, lenD, nr, pr, hz]
    · have hz : ¬ (40 : Int) < (xs.length : Int) := by omega
      have lc := own_wrong (rs := xs) c hx (by omega)
      have hh := badAt_head isRes xs 0
      have r : faultF (.tup xs) = (match (badAt isRes 0 xs).head? with
        | none => .non
        | some i => .int (i : Int)) := by
        rw [hh]
        exact if_neg h40
      rw [r]
      have o : ∀ (F1 : Den Hdl), F1 [.tup xs, .un, .un] = .ok (.val (.lst true ((badAt isRes 0 xs).map fun (k : Nat) => D.int (k : Int)))) [.tup xs, .un, .un] →
          nk0 (fnD 1 3 fx_law_c2_fault (sq (sIf (orT (notT (tst (uno (isiD "tuple") (nm 0)))) (tst (bin gtD (uno lenD (nm 0)) (cst (.int 40))))) (sRet (uno negD (cst (.int 1)))) (sNil)) (sq (sSet 1 (F1)) (sRet (ifE (tst (bin neD (nm 1) (dsp (.lst true) (anil)))) (bin ixD (nm 1) (cst (.int 0))) (cst .non)))))) [.tup xs] = .ok (match (badAt isRes 0 xs).head? with
            | none => .non
            | some i => .int (i : Int)) [.tup xs] := fun F1 l1 => by
        cases hB : badAt isRes 0 xs with
        | nil =>
          rw [hB] at l1
          have nd : deepB (.lst true []) (.lst true []) = some true := rfl
          simp [fx_law_c2_fault, nk0, fnD, outD, sq, ret_eq, retS, sIf, sNil, sExpr, sSet, sPar, sPar3, sAsg, sSto, putAt, onE, onT, andV, orV, notV, andT, orT, notT, ifE, tst, Rz.bind, nm_eq, vl_eq, cst, bin, uno, chn, dsp, acons, anil, callD, okA_nil, okA_val, okA_slot, lendD, wbD, runL, mtD, appL, extL, popL, Hdl.get, valsOf, D.nks, D.nk, D.pl, D.pls, D.frz, D.frzs, isiD, isiB, iop, iopC, ltD, leD, gtD, geD, addD, subD, mulD, modD, fdivD, negD, modC, isND, notND, isNB, gN, gT, gU, gC, gNo, lamD, frzAll_nil, frzAll_cons, cloOf, onlyD, fz, astar, sRaise, lenD, neD, eqB, nr, pr, fr, hz, l1, nd]
        | cons i is =>
          rw [hB] at l1
          have ix : ixD (.lst true (.int (i : Int) :: is.map fun (k : Nat) => D.int (k : Int))) (.int 0) = some (.int (i : Int)) := ix_nat (i := 0) rfl rfl
          simp [fx_law_c2_fault, nk0, fnD, outD, sq, ret_eq, retS, sIf, sNil, sExpr, sSet, sPar, sPar3, sAsg, sSto, putAt, onE, onT, andV, orV, notV, andT, orT, notT, ifE, tst, Rz.bind, nm_eq, vl_eq, cst, bin, uno, chn, dsp, acons, anil, callD, okA_nil, okA_val, okA_slot, lendD, wbD, runL, mtD, appL, extL, popL, Hdl.get, valsOf, D.nks, D.nk, D.pl, D.pls, D.frz, D.frzs, isiD, isiB, iop, iopC, ltD, leD, gtD, geD, addD, subD, mulD, modD, fdivD, negD, modC, isND, notND, isNB, gN, gT, gU, gC, gNo, lamD, frzAll_nil, frzAll_cons, cloOf, onlyD, fz, astar, sRaise, lenD, neD, eqB, nr, pr, fr, hz, l1, ix]
      exact o _ lc
  · have i2 := not_tup h ht
    rw [fault_not ht]
    simp [B_law_c2_fault, fx_law_c2_fault, nk0, fnD, outD, sq, ret_eq, retS, sIf, sNil, sExpr, sSet, sPar, sPar3, sAsg, sSto, putAt, onE, onT, andV, orV, notV, andT, orT, notT, ifE, tst, Rz.bind, nm_eq, vl_eq, cst, bin, uno, chn, dsp, acons, anil, callD, okA_nil, okA_val, okA_slot, lendD, wbD, runL, mtD, appL, extL, popL, Hdl.get, valsOf, D.nks, D.nk, D.pl, D.pls, D.frz, D.frzs, iop, iopC, ltD, leD, gtD, geD, addD, subD, mulD, modD, fdivD, negD, modC, isND, notND, isNB, gN, gT, gU, gC, gNo, lamD, frzAll_nil, frzAll_cons, cloOf, onlyD, fz, astar, sRaise, i2, e.un, e.pl, e.nk, e.nku]
theorem own_fault_any {x : D} (h : gd x = true) : d_law_c2_fault [x] = .ok (faultF x) [x] := o_own_fault (g_law_yv_is_residue := d_law_yv_is_residue) h fun y hy => own_res_any hy
end Law
end

section
set_option Elab.async false
set_option linter.all false
set_option maxRecDepth 100000
set_option maxHeartbeats 4000000
namespace Law
open Y Num
/-! ### polys as data -/
def iL (xs : List Int) : List D := xs.map .int
abbrev pt (p : List Int) : D := .tup (iL p)
theorem iL_len (p : List Int) : (iL p).length = p.length := by unfold iL; simp
theorem iL_gds (p : List Int) : gds (iL p) = true := gds_of fun d hd => by
  obtain ⟨i, _, rfl⟩ := List.mem_map.mp hd
  rfl
theorem iL_pl (p : List Int) : D.pls (iL p) = true := gds_pl (iL_gds p)
theorem iL_nk (p : List Int) : D.nks (iL p) = true := gds_nk (iL_gds p)
theorem iL_frz (p : List Int) : D.frzs (iL p) = iL p := gds_frz (iL_gds p)
theorem pt_gd (p : List Int) : gd (pt p) = true := iL_gds p
theorem iL_at {p : List Int} {k : Nat} (h : k < p.length) : (iL p)[k]? = some (.int (cf p k)) := by
  unfold iL
  rw [List.getElem?_map, List.getElem?_eq_getElem h, cf_lt h]
  rfl
theorem iL_set (p : List Int) (k : Nat) (v : Int) : (iL p).set k (.int v) = iL (p.set k v) := by unfold iL; rw [List.map_set]
theorem iL_app (p q : List Int) : iL (p ++ q) = iL p ++ iL q := by unfold iL; rw [List.map_append]
theorem iL_nil {p : List Int} : iL p = [] ↔ p = [] := by unfold iL; simp
theorem iL_inj {p q : List Int} (h : iL p = iL q) : p = q := by
  unfold iL at h
  exact List.map_inj_right (f := D.int) (fun x y e => by cases e; rfl) |>.mp h
theorem szs_iL : ∀ p : List Int, szs (iL p) = p.length
  | [] => rfl
  | x :: p => by
    show sz (.int x) + szs (iL p) = _
    rw [szs_iL p]
    simp [sz]
    omega
theorem ixt_i {p : List Int} {k : Nat} (h : k < p.length) : ixD (pt p) (.int (k : Int)) = some (.int (cf p k)) := ixt_nat (iL_at h) rfl
theorem ixl_i {o : Bool} {p : List Int} {k : Nat} (h : k < p.length) : ixD (.lst o (iL p)) (.int (k : Int)) = some (.int (cf p k)) := ix_nat (iL_at h) rfl
theorem isR_res {i : Int} : isRes (.int i) = true ↔ isR i := by
  show (decide (0 ≤ i) && decide (i < 2147483647)) = true ↔ _
  rw [Bool.and_eq_true, decide_eq_true_eq, decide_eq_true_eq]
  rfl
theorem firstNo_none {p : D → Bool} : ∀ {ds : List D} {k : Nat}, firstNo p k ds = none ↔ ∀ d ∈ ds, p d = true
  | [], k => by simp [firstNo]
  | d :: ds, k => by
    show (if p d = true then firstNo p (k + 1) ds else some k) = none ↔ _
    by_cases h : p d = true
    · rw [if_pos h, firstNo_none]
      simp [h]
    · rw [if_neg h]
      simp [h]
theorem fault_pt {p : List Int} (h : Res p) (hl : p.length ≤ 40) : faultF (pt p) = .non := by
  have e : firstNo isRes 0 (iL p) = none := firstNo_none.mpr fun d hd => by
    obtain ⟨i, hi, rfl⟩ := List.mem_map.mp hd
    exact isR_res.mpr (h i hi)
  show (if (iL p).length > 40 then D.int (-1) else _) = D.non
  rw [if_neg (by rw [iL_len]; omega), e]
theorem fault_non {x : D} (h : faultF x = .non) : ∃ p, x = pt p ∧ Res p ∧ p.length ≤ 40 := by
  unfold faultF at h
  split at h
  · rename_i xs
    split at h
    · cases h
    · rename_i h40
      split at h
      · rename_i hf
        have q := firstNo_none.mp hf
        have : ∀ ds : List D, (∀ d ∈ ds, isRes d = true) → ∃ p, ds = iL p ∧ Res p := fun ds => by
          induction ds with
          | nil => exact fun _ => ⟨[], rfl, Res.nil⟩
          | cons d ds ih =>
            intro hd
            obtain ⟨p, rfl, hp⟩ := ih fun e he => hd e (List.mem_cons_of_mem _ he)
            have h1 := hd d List.mem_cons_self
            cases d <;> first | (cases h1; done) | skip
            rename_i i
            exact ⟨i :: p, rfl, fun x hx => by
              rcases List.mem_cons.mp hx with rfl | hx
              · exact isR_res.mp h1
              · exact hp x hx⟩
        obtain ⟨p, rfl, hp⟩ := this xs q
        exact ⟨p, rfl, hp, by rw [iL_len] at h40; omega⟩
      · cases h
  · cases h
/-! ### values -/
theorem mulR {i j : Int} (hi : isR i) (hj : isR j) : mulC i j = true := mulC_r (by have := hi.1; have := hi.2; omega) (by have := hj.1; have := hj.2; omega)
abbrev vaB : SDen := sSet 2 (bin modD (bin addD (bin mulD (nm 2) (nm 1)) (nm 3)) (cst (.int 2147483647)))
abbrev vaB2 : SDen := sSet 2 (bin modD (uno intD (bin addD (bin mulD (nm 2) (nm 1)) (nm 3))) (cst (.int 2147483647)))
theorem rev_at {p : List Int} {k : Nat} {d : D} (h : (iL p).reverse[k]? = some d) : k < p.length ∧ d = .int (cf p (p.length - k - 1)) := by
  have hk : k < p.length := by
    have := (List.getElem?_eq_some_iff.mp h).1
    simpa [iL_len] using this
  refine ⟨hk, ?_⟩
  rw [List.getElem?_reverse (by rw [iL_len]; exact hk), iL_len, show p.length - 1 - k = p.length - k - 1 by omega, iL_at (by omega)] at h
  cases h
  rfl
theorem drop_cf {p : List Int} {k : Nat} (h : k < p.length) : p.drop k = cf p k :: p.drop (k + 1) := by
  rw [List.drop_eq_getElem_cons h, cf_lt h]
theorem va_loop {B : SDen} {p : List Int} {a : Int} {x s3 : D} (hp : Res p) (ha : isR a) (hB : ∀ f n : Int, isR f → isR n → B [x, .int a, .int f, .int n] = .nx [x, .int a, .int ((f * a + n) % 2147483647), .int n]) :
    ∃ s3', forL (gN 3) B (iL p).reverse [x, .int a, .int 0, s3] = .nx [x, .int a, .int (vaL p a), s3'] := by
  obtain ⟨τ', e, s3', h⟩ := forL_inv (g := gN 3) (p := B) (ds := (iL p).reverse) (τ := [x, .int a, .int 0, s3]) (fun k τ => ∃ s3', τ = [x, .int a, .int (vaL (p.drop (p.length - k)) a), s3']) (fun k d τ hd hI => by
    obtain ⟨s3', rfl⟩ := hI
    obtain ⟨hk, rfl⟩ := rev_at hd
    refine ⟨_, _, rfl, .inl (hB _ _ (vaL_res _ _) (hp.cf _)), .int (cf p (p.length - k - 1)), ?_⟩
    have e1 : p.length - (k + 1) = p.length - k - 1 := by omega
    have e2 : p.length - k - 1 + 1 = p.length - k := by omega
    rw [e1, drop_cf (by omega : p.length - k - 1 < p.length), e2, vaL_cons]) ⟨s3, by rw [Nat.sub_zero, List.drop_length]; rfl⟩
  refine ⟨s3', ?_⟩
  rw [e, h]
  simp [iL_len]
theorem va_body {x : D} {a f n : Int} (ha : isR a) (hf : isR f) : vaB [x, .int a, .int f, .int n] = .nx [x, .int a, .int ((f * a + n) % 2147483647), .int n] := by
  have m := mulR hf ha
  simp [vaB, nk0, fnD, outD, sq, sRet, sIf, sNil, sExpr, sSet, sPar, sPar3, sAsg, sSto, putAt, onE, onT, andV, orV, notV, andT, orT, notT, ifE, tst, Rz.bind, nm, vl, cst, bin, uno, chn, dsp, acons, anil, callD, okA, lendD, wbD, runL, mtD, appL, extL, popL, Hdl.get, valsOf, D.nks, D.nk, D.pl, D.pls, D.frz, D.frzs, nkU, isiD, isiB, iop, iopC, ltD, leD, gtD, geD, addD, subD, mulD, modD, fdivD, negD, modC, isND, notND, isNB, ixD, plO, gN, gT, gU, gC, gNo, lamD, frzAll, cloOf, onlyD, fz, astar, sRaise, m]
theorem va_body2 {x : D} {a f n : Int} (ha : isR a) (hf : isR f) : vaB2 [x, .int a, .int f, .int n] = .nx [x, .int a, .int ((f * a + n) % 2147483647), .int n] := by
  have m := mulR hf ha
  simp [vaB2, nk0, fnD, outD, sq, sRet, sIf, sNil, sExpr, sSet, sPar, sPar3, sAsg, sSto, putAt, onE, onT, andV, orV, notV, andT, orT, notT, ifE, tst, Rz.bind, nm, vl, cst, bin, uno, chn, dsp, acons, anil, callD, okA, lendD, wbD, runL, mtD, appL, extL, popL, Hdl.get, valsOf, D.nks, D.nk, D.pl, D.pls, D.frz, D.frzs, nkU, isiD, isiB, iop, iopC, ltD, leD, gtD, geD, addD, subD, mulD, modD, fdivD, negD, modC, isND, notND, isNB, ixD, plO, gN, gT, gU, gC, gNo, lamD, frzAll, cloOf, onlyD, fz, astar, sRaise, m, intD]
theorem value_at_ok {p : List Int} {a : Int} (hp : Res p) (ha : isR a) : d_value_at [pt p, .int a] = .ok (.int (vaL p a)) [pt p, .int a] := by
  obtain ⟨s3, e⟩ := va_loop (B := vaB) (x := pt p) (s3 := .un) hp ha fun f n hf hn => va_body ha hf
  have pl := iL_pl p
  have nk := iL_nk p
  have rp : D.pls (iL p).reverse = true := by
    have : (iL p).reverse = iL p.reverse := by unfold iL; rw [List.map_reverse]
    rw [this]
    exact iL_pl _
  have hb : b_value_at [pt p, .int a, .un, .un] = .rt (.int (vaL p a)) [pt p, .int a, .un, s3] := by
    unfold b_value_at
    refine (sq_nx (τ1 := [pt p, .int a, .int 0, .un]) (by simp [nk0, fnD, outD, sq, sRet, sIf, sNil, sExpr, sSet, sPar, sPar3, sAsg, sSto, putAt, onE, onT, andV, orV, notV, andT, orT, notT, ifE, tst, Rz.bind, nm, vl, cst, bin, uno, chn, dsp, acons, anil, callD, okA, lendD, wbD, runL, mtD, appL, extL, popL, Hdl.get, valsOf, D.nks, D.nk, D.pl, D.pls, D.frz, D.frzs, nkU, isiD, isiB, iop, iopC, ltD, leD, gtD, geD, addD, subD, mulD, modD, fdivD, negD, modC, isND, notND, isNB, ixD, plO, gN, gT, gU, gC, gNo, lamD, frzAll, cloOf, onlyD, fz, astar, sRaise])).trans ((sq_nx (τ1 := [pt p, .int a, .int (vaL p a), s3]) ?_).trans (by simp [nk0, fnD, outD, sq, sRet, sIf, sNil, sExpr, sSet, sPar, sPar3, sAsg, sSto, putAt, onE, onT, andV, orV, notV, andT, orT, notT, ifE, tst, Rz.bind, nm, vl, cst, bin, uno, chn, dsp, acons, anil, callD, okA, lendD, wbD, runL, mtD, appL, extL, popL, Hdl.get, valsOf, D.nks, D.nk, D.pl, D.pls, D.frz, D.frzs, nkU, isiD, isiB, iop, iopC, ltD, leD, gtD, geD, addD, subD, mulD, modD, fdivD, negD, modC, isND, notND, isNB, ixD, plO, gN, gT, gU, gC, gNo, lamD, frzAll, cloOf, onlyD, fz, astar, sRaise]))
    rw [for_of (ds := (iL p).reverse) (τ1 := [pt p, .int a, .int 0, .un]) (by simp [seqS, seqOf, nk0, fnD, outD, sq, sRet, sIf, sNil, sExpr, sSet, sPar, sPar3, sAsg, sSto, putAt, onE, onT, andV, orV, notV, andT, orT, notT, ifE, tst, Rz.bind, nm, vl, cst, bin, uno, chn, dsp, acons, anil, callD, okA, lendD, wbD, runL, mtD, appL, extL, popL, Hdl.get, valsOf, D.nks, D.nk, D.pl, D.pls, D.frz, D.frzs, nkU, isiD, isiB, iop, iopC, ltD, leD, gtD, geD, addD, subD, mulD, modD, fdivD, negD, modC, isND, notND, isNB, ixD, plO, gN, gT, gU, gC, gNo, lamD, frzAll, cloOf, onlyD, fz, astar, sRaise, revD, pl, rp]), e]
  exact (nk0_ok rfl (by simp [D.nks, D.nk, nk]) hb rfl (by simp [outD, fx_value_at, nkU, D.nk, nk])).trans (by simp [outD, fx_value_at])
theorem own_value {p : List Int} {a : Int} (hp : Res p) (ha : isR a) : d_law_c2_value [pt p, .int a] = .ok (.int (vaL p a)) [pt p, .int a] := by
  obtain ⟨s3, e⟩ := va_loop (B := vaB2) (x := pt p) (s3 := .un) hp ha fun f n hf hn => va_body2 ha hf
  have pl := iL_pl p
  have nk := iL_nk p
  have rp : D.pls (iL p).reverse = true := by
    have : (iL p).reverse = iL p.reverse := by unfold iL; rw [List.map_reverse]
    rw [this]
    exact iL_pl _
  have hb : b_law_c2_value [pt p, .int a, .un, .un] = .rt (.int (vaL p a)) [pt p, .int a, .un, s3] := by
    unfold b_law_c2_value
    refine (sq_nx (τ1 := [pt p, .int a, .int 0, .un]) (by simp [nk0, fnD, outD, sq, sRet, sIf, sNil, sExpr, sSet, sPar, sPar3, sAsg, sSto, putAt, onE, onT, andV, orV, notV, andT, orT, notT, ifE, tst, Rz.bind, nm, vl, cst, bin, uno, chn, dsp, acons, anil, callD, okA, lendD, wbD, runL, mtD, appL, extL, popL, Hdl.get, valsOf, D.nks, D.nk, D.pl, D.pls, D.frz, D.frzs, nkU, isiD, isiB, iop, iopC, ltD, leD, gtD, geD, addD, subD, mulD, modD, fdivD, negD, modC, isND, notND, isNB, ixD, plO, gN, gT, gU, gC, gNo, lamD, frzAll, cloOf, onlyD, fz, astar, sRaise])).trans ((sq_nx (τ1 := [pt p, .int a, .int (vaL p a), s3]) ?_).trans (by simp [nk0, fnD, outD, sq, sRet, sIf, sNil, sExpr, sSet, sPar, sPar3, sAsg, sSto, putAt, onE, onT, andV, orV, notV, andT, orT, notT, ifE, tst, Rz.bind, nm, vl, cst, bin, uno, chn, dsp, acons, anil, callD, okA, lendD, wbD, runL, mtD, appL, extL, popL, Hdl.get, valsOf, D.nks, D.nk, D.pl, D.pls, D.frz, D.frzs, nkU, isiD, isiB, iop, iopC, ltD, leD, gtD, geD, addD, subD, mulD, modD, fdivD, negD, modC, isND, notND, isNB, ixD, plO, gN, gT, gU, gC, gNo, lamD, frzAll, cloOf, onlyD, fz, astar, sRaise]))
    rw [for_of (ds := (iL p).reverse) (τ1 := [pt p, .int a, .int 0, .un]) (by simp [seqS, seqOf, nk0, fnD, outD, sq, sRet, sIf, sNil, sExpr, sSet, sPar, sPar3, sAsg, sSto, putAt, onE, onT, andV, orV, notV, andT, orT, notT, ifE, tst, Rz.bind, nm, vl, cst, bin, uno, chn, dsp, acons, anil, callD, okA, lendD, wbD, runL, mtD, appL, extL, popL, Hdl.get, valsOf, D.nks, D.nk, D.pl, D.pls, D.frz, D.frzs, nkU, isiD, isiB, iop, iopC, ltD, leD, gtD, geD, addD, subD, mulD, modD, fdivD, negD, modC, isND, notND, isNB, ixD, plO, gN, gT, gU, gC, gNo, lamD, frzAll, cloOf, onlyD, fz, astar, sRaise, revD, pl, rp]), e]
  exact (nk0_ok rfl (by simp [D.nks, D.nk, nk]) hb rfl (by simp [outD, fx_law_c2_value, nkU, D.nk, nk])).trans (by simp [outD, fx_law_c2_value])
/-! ### products -/
abbrev puB : SDen := sSto 2 (bin addD (nm 3) (nm 5)) (bin modD (bin addD (bin ixD (nm 2) (bin addD (nm 3) (nm 5))) (bin mulD (nm 4) (nm 6))) (cst (.int 2147483647)))
theorem put_i {o : D} {M : List Int} {τ : List D} {i k : Nat} {v : Int} (hk : k < M.length) (h : τ[i]? = some (.lst true (iL M))) : putAt i (.int (k : Int)) (.int v) τ = some (τ.set i (.lst true (iL (M.set k v)))) := by
  unfold putAt
  rw [h]
  show ((L2.ixN (iL M).length (k : Int)).map fun j => τ.set i (.lst true ((iL M).set j (.int v)))) = _
  have : L2.ixN (iL M).length (k : Int) = some k := by
    rw [iL_len]
    unfold L2.ixN
    first
    | exact seqIx k M.length hk
    | simp [hk]
  rw [this]
  show some (τ.set i (.lst true ((iL M).set k (.int v)))) = _
  rw [iL_set]
theorem pu_body {x y : D} {M : List Int} {t j : Nat} {a b : Int} (ha : isR a) (hb : isR b) (hk : t + j < M.length) : puB [x, y, .lst true (iL M), .int (t : Int), .int a, .int (j : Int), .int b] = .nx [x, y, .lst true (iL (M.set (t + j) ((cf M (t + j) + a * b) % 2147483647))), .int (t : Int), .int a, .int (j : Int), .int b] := by
  have m := mulR ha hb
  have ix := ixl_i (o := true) hk
  have e : ((t + j : Nat) : Int) = (t : Int) + (j : Int) := by omega
  have pu := fun v => put_i (o := .un) (M := M) (τ := [x, y, .lst true (iL M), .int (t : Int), .int a, .int (j : Int), .int b]) (i := 2) (v := v) hk rfl
  rw [e] at ix
  simp only [e] at pu
  simp [puB, nk0, fnD, sSto, onE, Rz.bind, nm, cst, bin, Hdl.get, addD, iop, iopC, modD, modC, mulD, m, ix, pu]
/-- the inner loop, by a body that puts x times b's number upon M's -/
theorem in_loop {B : SDen} {g : D → List D → Option (List D)} {ds : List D} {T : List Int → List D → Prop} {r b : List Int} {a : Nat} {x : Int} {τ : List D} (hl : a + b.length ≤ r.length) (hd : ds.length = b.length)
    (h0 : T r τ) (step : ∀ (j : Nat) (d : D) (M : List Int) (τ : List D), ds[j]? = some d → j < b.length → M.length = r.length → T M τ → ∃ τ1 τ2, g d τ = some τ1 ∧ B τ1 = .nx τ2 ∧ T (M.set (a + j) ((cf M (a + j) + x * cf b j) % 2147483647)) τ2) :
    ∃ τ', forL g B ds τ = .nx τ' ∧ T (adL r a x b) τ' := by
  obtain ⟨τ', e, h⟩ := forL_inv (g := g) (p := B) (ds := ds) (τ := τ) (fun k τ => T (adL r a x (b.take k)) τ) (fun k d τ hk hI => by
    have hkl : k < b.length := by
      have := (List.getElem?_eq_some_iff.mp hk).1
      omega
    obtain ⟨τ1, τ2, e1, e2, e3⟩ := step k d _ τ hk hkl (adL_len _ _ _ _) hI
    rw [adL_take hkl hl] at e3
    exact ⟨τ1, τ2, e1, .inl e2, e3⟩) (by rw [List.take_zero, adL_nil]; exact h0)
  rw [hd, List.take_length] at h
  exact ⟨τ', e, h⟩
theorem enum_i {p : List Int} {k : Nat} {d : D} (h : (enumFrom' 0 (iL p))[k]? = some d) : k < p.length ∧ d = .tup [.int (k : Int), .int (cf p k)] := by
  have hk : k < p.length := by
    have := (List.getElem?_eq_some_iff.mp h).1
    rw [enum_length, iL_len] at this
    exact this
  rw [enum_at (iL_at hk), Nat.zero_add] at h
  cases h
  exact ⟨hk, rfl⟩
theorem range_i {n k : Nat} {d : D} (h : ((List.range n).map fun (k : Nat) => D.int (k : Int))[k]? = some d) : k < n ∧ d = .int (k : Int) := by
  have hk : k < n := by
    have := (List.getElem?_eq_some_iff.mp h).1
    simpa using this
  rw [List.getElem?_map, List.getElem?_range hk] at h
  cases h
  exact ⟨hk, rfl⟩
/-- the product, as the program makes it -/
theorem pu_in {q M : List Int} {x y s5 s6 : D} {t : Nat} {a : Int} (hq : Res q) (ha : isR a) (hl : t + q.length ≤ M.length) : ∃ s5' s6', forL (gT 2 (gC (gN 5) (gC (gN 6) (gNo)))) puB (enumFrom' 0 (iL q)) [x, y, .lst true (iL M), .int (t : Int), .int a, s5, s6] = .nx [x, y, .lst true (iL (adL M t a q)), .int (t : Int), .int a, s5', s6'] := by
  obtain ⟨τ', e, s5', s6', h⟩ := in_loop (B := puB) (g := gT 2 (gC (gN 5) (gC (gN 6) (gNo)))) (ds := enumFrom' 0 (iL q)) (T := fun M τ => ∃ s5' s6', τ = [x, y, .lst true (iL M), .int (t : Int), .int a, s5', s6']) (r := M) (b := q) (a := t) (x := a) hl (by rw [enum_length, iL_len]) ⟨s5, s6, rfl⟩ fun j d M' τ hd hj hM hT => by
    obtain ⟨s5', s6', rfl⟩ := hT
    obtain ⟨_, rfl⟩ := enum_i hd
    exact ⟨[x, y, .lst true (iL M'), .int (t : Int), .int a, .int (j : Int), .int (cf q j)], _, by simp [gT, gC, gN, gNo], pu_body ha (hq.cf j) (by omega), _, _, rfl⟩
  exact ⟨s5', s6', by rw [e, h]⟩
theorem flat_zeros (x : Int) : ∀ n : Nat, (List.replicate n [D.int x]).flatten = iL (List.replicate n x)
  | 0 => rfl
  | n + 1 => by
    rw [List.replicate_succ, List.flatten_cons, flat_zeros x n, List.replicate_succ]
    rfl
theorem zeros_mul (n : Nat) (hn : n ≤ 10000) : mulD (.lst true [.int 0]) (.int (n : Int)) = some (.lst true (iL (List.replicate n 0))) := by
  show (if D.pls [.int 0] && decide (-1000 ≤ (n : Int)) && decide ((n : Int) ≤ 10000) && decide ([D.int 0].length * (n : Int).toNat ≤ 100000) then some (D.lst true (List.replicate (n : Int).toNat [.int 0]).flatten) else none) = _
  rw [Int.toNat_natCast, flat_zeros, if_pos]
  simp [D.pls, D.pl]
  omega
theorem zeros_tup (n : Nat) (hn : n ≤ 1000) : mulD (.tup [.int 0]) (.int (n : Int)) = some (pt (List.replicate n 0)) := by
  show (if D.pls [.int 0] && decide (-1000000 ≤ (n : Int)) && decide ((n : Int) ≤ 1000) && decide ([D.int 0].length ≤ 1000) then some (D.tup (List.replicate (n : Int).toNat [.int 0]).flatten) else none) = _
  rw [Int.toNat_natCast, flat_zeros, if_pos]
  simp [D.pls, D.pl]
  omega
/-! ### product_of -/
theorem pu_out {p q : List Int} {s3 s4 s5 s6 : D} (hp : Res p) (hq : Res q) (hp0 : p ≠ []) (hq0 : q ≠ []) : ∃ s3' s4' s5' s6', forL (gT 2 (gC (gN 3) (gC (gN 4) (gNo)))) (sIf (tst (bin neD (nm 4) (cst (.int 0)))) (sFor (enumS (vl 1)) (gT 2 (gC (gN 5) (gC (gN 6) (gNo)))) (sSto 2 (bin addD (nm 3) (nm 5)) (bin modD (bin addD (bin ixD (nm 2) (bin addD (nm 3) (nm 5))) (bin mulD (nm 4) (nm 6))) (cst (.int 2147483647))))) (sNil)) (enumFrom' 0 (iL p)) [pt p, pt q, .lst true (iL (List.replicate (p.length + q.length - 1) 0)), s3, s4, s5, s6] = .nx [pt p, pt q, .lst true (iL (prL p q)), s3', s4', s5', s6'] := by
  have l1 := List.length_pos_iff.mpr hp0
  have l2 := List.length_pos_iff.mpr hq0
  obtain ⟨τ', e, M, s3', s4', s5', s6', h, h1, h2⟩ := forL_inv (g := gT 2 (gC (gN 3) (gC (gN 4) (gNo)))) (p := (sIf (tst (bin neD (nm 4) (cst (.int 0)))) (sFor (enumS (vl 1)) (gT 2 (gC (gN 5) (gC (gN 6) (gNo)))) (sSto 2 (bin addD (nm 3) (nm 5)) (bin modD (bin addD (bin ixD (nm 2) (bin addD (nm 3) (nm 5))) (bin mulD (nm 4) (nm 6))) (cst (.int 2147483647))))) (sNil))) (ds := enumFrom' 0 (iL p)) (τ := [pt p, pt q, .lst true (iL (List.replicate (p.length + q.length - 1) 0)), s3, s4, s5, s6])
    (fun t τ => ∃ M s3' s4' s5' s6', τ = [pt p, pt q, .lst true (iL M), s3', s4', s5', s6'] ∧ M.length = p.length + q.length - 1 ∧ ∀ k, cf M k = cm (p.take t) q k % 2147483647) (fun t d τ hd hI => by
      obtain ⟨M, s3', s4', s5', s6', rfl, h1, h2⟩ := hI
      obtain ⟨ht, rfl⟩ := enum_i hd
      have stp := prL_step ht h1 h2
      have rM : Res M := cf_res fun k => by rw [h2]; exact isR_mod _
      have ct := hp.cf t
      have ga : gT 2 (gC (gN 3) (gC (gN 4) (gNo))) (.tup [.int (t : Int), .int (cf p t)]) [pt p, pt q, .lst true (iL M), s3', s4', s5', s6'] = some [pt p, pt q, .lst true (iL M), .int (t : Int), .int (cf p t), s5', s6'] := by simp [gT, gC, gN, gNo]
      by_cases h0 : cf p t = 0
      · have ct0 := h0
        rw [h0, adL_zero rM] at stp
        have bd : (sIf (tst (bin neD (nm 4) (cst (.int 0)))) (sFor (enumS (vl 1)) (gT 2 (gC (gN 5) (gC (gN 6) (gNo)))) (sSto 2 (bin addD (nm 3) (nm 5)) (bin modD (bin addD (bin ixD (nm 2) (bin addD (nm 3) (nm 5))) (bin mulD (nm 4) (nm 6))) (cst (.int 2147483647))))) (sNil)) [pt p, pt q, .lst true (iL M), .int (t : Int), .int (cf p t), s5', s6'] = .nx [pt p, pt q, .lst true (iL M), .int (t : Int), .int (cf p t), s5', s6'] := (if_f (by simp [nk0, fnD, outD, sq, sRet, sIf, sNil, sExpr, sSet, sPar, sPar3, sAsg, sSto, putAt, onE, onT, andV, orV, notV, andT, orT, notT, ifE, tst, Rz.bind, nm, vl, cst, bin, uno, chn, dsp, acons, anil, callD, okA, lendD, wbD, runL, mtD, appL, extL, popL, Hdl.get, valsOf, D.nks, D.nk, D.pl, D.pls, D.frz, D.frzs, nkU, isiD, isiB, iop, iopC, ltD, leD, gtD, geD, addD, subD, mulD, modD, fdivD, negD, modC, isND, notND, isNB, ixD, plO, gN, gT, gU, gC, gNo, lamD, frzAll, cloOf, onlyD, fz, astar, sRaise, neD, eqB, h0])).trans rfl
        exact ⟨_, _, ga, .inl bd, M, _, _, _, _, rfl, h1, stp⟩
      · obtain ⟨s5'', s6'', ei⟩ := pu_in (x := pt p) (y := pt q) (M := M) (s5 := s5') (s6 := s6') (t := t) (a := cf p t) hq ct (by omega)
        have fr := iL_frz q
        have pl := iL_pl q
        have bd : (sIf (tst (bin neD (nm 4) (cst (.int 0)))) (sFor (enumS (vl 1)) (gT 2 (gC (gN 5) (gC (gN 6) (gNo)))) (sSto 2 (bin addD (nm 3) (nm 5)) (bin modD (bin addD (bin ixD (nm 2) (bin addD (nm 3) (nm 5))) (bin mulD (nm 4) (nm 6))) (cst (.int 2147483647))))) (sNil)) [pt p, pt q, .lst true (iL M), .int (t : Int), .int (cf p t), s5', s6'] = .nx [pt p, pt q, .lst true (iL (adL M t (cf p t) q)), .int (t : Int), .int (cf p t), s5'', s6''] :=
          (if_t (τ1 := [pt p, pt q, .lst true (iL M), .int (t : Int), .int (cf p t), s5', s6']) (by simp [nk0, fnD, outD, sq, sRet, sIf, sNil, sExpr, sSet, sPar, sPar3, sAsg, sSto, putAt, onE, onT, andV, orV, notV, andT, orT, notT, ifE, tst, Rz.bind, nm, vl, cst, bin, uno, chn, dsp, acons, anil, callD, okA, lendD, wbD, runL, mtD, appL, extL, popL, Hdl.get, valsOf, D.nks, D.nk, D.pl, D.pls, D.frz, D.frzs, nkU, isiD, isiB, iop, iopC, ltD, leD, gtD, geD, addD, subD, mulD, modD, fdivD, negD, modC, isND, notND, isNB, ixD, plO, gN, gT, gU, gC, gNo, lamD, frzAll, cloOf, onlyD, fz, astar, sRaise, neD, eqB, h0])).trans ((for_of (ds := enumFrom' 0 (iL q)) (τ1 := [pt p, pt q, .lst true (iL M), .int (t : Int), .int (cf p t), s5', s6']) (by simp [enumS, nk0, fnD, outD, sq, sRet, sIf, sNil, sExpr, sSet, sPar, sPar3, sAsg, sSto, putAt, onE, onT, andV, orV, notV, andT, orT, notT, ifE, tst, Rz.bind, nm, vl, cst, bin, uno, chn, dsp, acons, anil, callD, okA, lendD, wbD, runL, mtD, appL, extL, popL, Hdl.get, valsOf, D.nks, D.nk, D.pl, D.pls, D.frz, D.frzs, nkU, isiD, isiB, iop, iopC, ltD, leD, gtD, geD, addD, subD, mulD, modD, fdivD, negD, modC, isND, notND, isNB, ixD, plO, gN, gT, gU, gC, gNo, lamD, frzAll, cloOf, onlyD, fz, astar, sRaise, seqOf, fr, pl])).trans ei)
        exact ⟨_, _, ga, .inl bd, _, _, _, _, _, rfl, by rw [adL_len]; exact h1, stp⟩) ⟨_, _, _, _, _, rfl, by simp, fun k => by rw [zeros_cf, List.take_zero]; rfl⟩
  rw [enum_length, iL_len] at h2
  rw [e, h, prL_end hp0 hq0 h1 h2]
  exact ⟨_, _, _, _, rfl⟩
theorem product_ok {p q : List Int} (hp : Res p) (hq : Res q) (l1 : p.length ≤ 100) (l2 : q.length ≤ 100) : d_product_of [pt p, pt q] = .ok (.lst true (iL (prL p q))) [pt p, pt q] := by
  have np := iL_nk p
  have nq := iL_nk q
  have fp := iL_frz p
  have pp := iL_pl p
  have nr := iL_nk (prL p q)
  have lp := iL_len p
  have lq := iL_len q
  by_cases h0 : p = [] ∨ q = []
  · have e : prL p q = [] := if_pos h0
    rw [e]
    have en : iL [] = [] := rfl
    rcases h0 with rfl | rfl
    · simp [d_product_of, b_product_of, fx_product_of, nk0, fnD, outD, sq, sRet, sIf, sNil, sExpr, sSet, sPar, sPar3, sAsg, sSto, putAt, onE, onT, andV, orV, notV, andT, orT, notT, ifE, tst, Rz.bind, nm, vl, cst, bin, uno, chn, dsp, acons, anil, callD, okA, lendD, wbD, runL, mtD, appL, extL, popL, Hdl.get, valsOf, D.nks, D.nk, D.pl, D.pls, D.frz, D.frzs, nkU, isiD, isiB, iop, iopC, ltD, leD, gtD, geD, addD, subD, mulD, modD, fdivD, negD, modC, isND, notND, isNB, ixD, plO, gN, gT, gU, gC, gNo, lamD, frzAll, cloOf, onlyD, fz, astar, sRaise, lenD, eqi, en, nq]
    · by_cases hz : (p.length : Int) = 0 <;> simp [d_product_of, b_product_of, fx_product_of, nk0, fnD, outD, sq, sRet, sIf, sNil, sExpr, sSet, sPar, sPar3, sAsg, sSto, putAt, onE, onT, andV, orV, notV, andT, orT, notT, ifE, tst, Rz.bind, nm, vl, cst, bin, uno, chn, dsp, acons, anil, callD, okA, lendD, wbD, runL, mtD, appL, extL, popL, Hdl.get, valsOf, D.nks, D.nk, D.pl, D.pls, D.frz, D.frzs, nkU, isiD, isiB, iop, iopC, ltD, leD, gtD, geD, addD, subD, mulD, modD, fdivD, negD, modC, isND, notND, isNB, ixD, plO, gN, gT, gU, gC, gNo, lamD, frzAll, cloOf, onlyD, fz, astar, sRaise, lenD, eqi, lp, en, hz, np]
  · have hp0 : p ≠ [] := fun z => h0 (.inl z)
    have hq0 : q ≠ [] := fun z => h0 (.inr z)
    have l3 := List.length_pos_iff.mpr hp0
    have l4 := List.length_pos_iff.mpr hq0
    have z1 : ¬ (p.length : Int) = 0 := by omega
    have z2 : ¬ (q.length : Int) = 0 := by omega
    have zm := zeros_mul (p.length + q.length - 1) (by omega)
    have ec : ((p.length + q.length - 1 : Nat) : Int) = (p.length : Int) + (q.length : Int) - 1 := by omega
    rw [ec] at zm
    obtain ⟨s3, s4, s5, s6, e⟩ := pu_out (s3 := .un) (s4 := .un) (s5 := .un) (s6 := .un) hp hq hp0 hq0
    have hb : b_product_of [pt p, pt q, .un, .un, .un, .un, .un] = .rt (.lst true (iL (prL p q))) [pt p, pt q, .un, s3, s4, s5, s6] := by
      unfold b_product_of
      refine (sq_nx (τ1 := [pt p, pt q, .un, .un, .un, .un, .un]) (by simp [nk0, fnD, outD, sq, sRet, sIf, sNil, sExpr, sSet, sPar, sPar3, sAsg, sSto, putAt, onE, onT, andV, orV, notV, andT, orT, notT, ifE, tst, Rz.bind, nm, vl, cst, bin, uno, chn, dsp, acons, anil, callD, okA, lendD, wbD, runL, mtD, appL, extL, popL, Hdl.get, valsOf, D.nks, D.nk, D.pl, D.pls, D.frz, D.frzs, nkU, isiD, isiB, iop, iopC, ltD, leD, gtD, geD, addD, subD, mulD, modD, fdivD, negD, modC, isND, notND, isNB, ixD, plO, gN, gT, gU, gC, gNo, lamD, frzAll, cloOf, onlyD, fz, astar, sRaise, lenD, eqi, lp, lq, hp0, hq0])).trans ?_
      refine (sq_nx (τ1 := [pt p, pt q, .lst true (iL (List.replicate (p.length + q.length - 1) 0)), .un, .un, .un, .un]) (by simp [nk0, fnD, outD, sq, sRet, sIf, sNil, sExpr, sSet, sPar, sPar3, sAsg, sSto, putAt, onE, onT, andV, orV, notV, andT, orT, notT, ifE, tst, Rz.bind, nm, vl, cst, bin, uno, chn, dsp, acons, anil, callD, okA, lendD, wbD, runL, mtD, appL, extL, popL, Hdl.get, valsOf, D.nks, D.nk, D.pl, D.pls, D.frz, D.frzs, nkU, isiD, isiB, iop, iopC, ltD, leD, gtD, geD, addD, subD, modD, fdivD, negD, modC, isND, notND, isNB, gN, gT, gU, gC, gNo, lamD, frzAll, cloOf, onlyD, fz, astar, sRaise, lenD, lp, lq, zm])).trans ?_
      refine (sq_nx (τ1 := [pt p, pt q, .lst true (iL (prL p q)), s3, s4, s5, s6]) ?_).trans (by simp [nk0, fnD, outD, sq, sRet, sIf, sNil, sExpr, sSet, sPar, sPar3, sAsg, sSto, putAt, onE, onT, andV, orV, notV, andT, orT, notT, ifE, tst, Rz.bind, nm, vl, cst, bin, uno, chn, dsp, acons, anil, callD, okA, lendD, wbD, runL, mtD, appL, extL, popL, Hdl.get, valsOf, D.nks, D.nk, D.pl, D.pls, D.frz, D.frzs, nkU, isiD, isiB, iop, iopC, ltD, leD, gtD, geD, addD, subD, mulD, modD, fdivD, negD, modC, isND, notND, isNB, ixD, plO, gN, gT, gU, gC, gNo, lamD, frzAll, cloOf, onlyD, fz, astar, sRaise])
      exact (for_of (ds := enumFrom' 0 (iL p)) (τ1 := [pt p, pt q, .lst true (iL (List.replicate (p.length + q.length - 1) 0)), .un, .un, .un, .un]) (by simp [enumS, nk0, fnD, outD, sq, sRet, sIf, sNil, sExpr, sSet, sPar, sPar3, sAsg, sSto, putAt, onE, onT, andV, orV, notV, andT, orT, notT, ifE, tst, Rz.bind, nm, vl, cst, bin, uno, chn, dsp, acons, anil, callD, okA, lendD, wbD, runL, mtD, appL, extL, popL, Hdl.get, valsOf, D.nks, D.nk, D.pl, D.pls, D.frz, D.frzs, nkU, isiD, isiB, iop, iopC, ltD, leD, gtD, geD, addD, subD, mulD, modD, fdivD, negD, modC, isND, notND, isNB, ixD, plO, gN, gT, gU, gC, gNo, lamD, frzAll, cloOf, onlyD, fz, astar, sRaise, seqOf, fp, pp])).trans e
    exact (nk0_ok rfl (by simp [D.nks, D.nk, np, nq]) hb (show D.nk (.lst true (iL (prL p q))) = true from nr) (by simp [outD, fx_product_of, nkU, D.nk, np, nq])).trans (by simp [outD, fx_product_of])
end Law
end

section
set_option Elab.async false
set_option linter.all false
set_option maxRecDepth 100000
set_option maxHeartbeats 4000000
namespace Law
open Y Num
/-! ### things that may be compared: of so many levels, of texts that are right -/
def Sh (k : Nat) (x : D) : Prop := gd x = true ∧ ∃ y, x.py = some y ∧ y.canLay0 = true ∧ y.depth ≤ k
theorem Sh.gd {k : Nat} {x : D} (h : Sh k x) : Y.gd x = true := h.1
theorem Sh.mono {k m : Nat} {x : D} (h : Sh k x) (l : k ≤ m) : Sh m x := let ⟨g, y, e, c, d⟩ := h; ⟨g, y, e, c, Nat.le_trans d l⟩
theorem Sh.int (i : Int) (k : Nat) : Sh k (.int i) := ⟨rfl, .int i, rfl, rfl, Nat.zero_le _⟩
theorem Sh.non (k : Nat) : Sh k .non := ⟨rfl, .none, rfl, rfl, Nat.zero_le _⟩
theorem Sh.bl (b : Bool) (k : Nat) : Sh k (.bl b) := ⟨rfl, .bool b, rfl, rfl, Nat.zero_le _⟩
theorem Sh.all {k : Nat} : ∀ {ds : List D}, (∀ d ∈ ds, Sh k d) → gds ds = true ∧ ∃ ys, D.pys ds = some ys ∧ PySem.PyData.canLayAll0 ys = true ∧ PySem.PyData.depthAll ys ≤ k
  | [], _ => ⟨rfl, [], rfl, rfl, Nat.zero_le _⟩
  | d :: ds, h => by
    obtain ⟨g, y, e, c, l⟩ := h d List.mem_cons_self
    obtain ⟨g2, ys, e2, c2, l2⟩ := Sh.all fun x hx => h x (List.mem_cons_of_mem _ hx)
    refine ⟨by rw [gds_cons, g, g2]; rfl, y :: ys, by rw [D.pys, e, e2], ?_, ?_⟩
    · simp [PySem.PyData.canLayAll0, c, c2]
    · simp [PySem.PyData.depthAll]; omega
theorem Sh.tup {k : Nat} {ds : List D} (h : ∀ d ∈ ds, Sh k d) : Sh (k + 1) (.tup ds) := by
  obtain ⟨g, ys, e, c, l⟩ := Sh.all h
  exact ⟨g, .tuple ys, by rw [D.py, e]; rfl, by simpa [PySem.PyData.canLay0] using c, by simp [PySem.PyData.depth]; omega⟩
theorem Sh.lst {k : Nat} {ds : List D} (h : ∀ d ∈ ds, Sh k d) : Sh (k + 1) (.lst false ds) := by
  obtain ⟨g, ys, e, c, l⟩ := Sh.all h
  exact ⟨g, .list ys, by rw [D.py, e]; rfl, by simpa [PySem.PyData.canLay0] using c, by simp [PySem.PyData.depth]; omega⟩
theorem Sh.each {k : Nat} : ∀ {ds : List D} {ys : List PySem.PyData}, gds ds = true → D.pys ds = some ys → PySem.PyData.canLayAll0 ys = true → PySem.PyData.depthAll ys ≤ k → ∀ d ∈ ds, Sh k d
  | [], ys, g, e, c, l, d, h => by cases h
  | x :: ds, ys, g, e, c, l, d, h => by
    rw [gds_cons, Bool.and_eq_true] at g
    rw [D.pys] at e
    cases e1 : x.py with
    | none => rw [e1] at e; cases e
    | some y =>
      cases e2 : D.pys ds with
      | none => rw [e1, e2] at e; cases e
      | some zs =>
        rw [e1, e2] at e
        cases e
        simp [PySem.PyData.canLayAll0] at c
        simp [PySem.PyData.depthAll] at l
        rcases List.mem_cons.mp h with rfl | h
        · exact ⟨g.1, y, e1, c.1, by omega⟩
        · exact Sh.each g.2 e2 c.2 (by omega) d h
theorem Sh.items {k : Nat} {ds : List D} (h : Sh k (.tup ds)) : ∃ m, k = m + 1 ∧ ∀ d ∈ ds, Sh m d := by
  obtain ⟨g, y, e, c, l⟩ := h
  rw [D.py] at e
  cases e2 : D.pys ds with
  | none => rw [e2] at e; cases e
  | some ys =>
    rw [e2] at e
    cases e
    have l : PySem.PyData.depthAll ys + 1 ≤ k := by simpa [PySem.PyData.depth] using l
    exact ⟨k - 1, by omega, Sh.each g e2 (by simpa [PySem.PyData.canLay0] using c) (by omega)⟩
theorem eq_unit {k : Nat} {ds : List D} (h : Sh k (.tup ds)) (hk : k ≤ 64) : eqD (.tup ds) (.tup []) = some (.bl ds.isEmpty) := by
  obtain ⟨g, y, e, c, l⟩ := h
  have e2 : D.py (.tup []) = some (.tuple []) := rfl
  have s1 : PySem.SeqAt.shaped y = true := by
    unfold PySem.SeqAt.shaped
    rw [c, decide_eq_true (by omega)]
    rfl
  have s2 : PySem.SeqAt.shaped (.tuple []) = true := by
    simp [PySem.SeqAt.shaped, PySem.PyData.canLay0, PySem.PyData.canLayAll0, PySem.PyData.depth, PySem.PyData.depthAll]
  have h3 : deepB (.tup ds) (.tup []) = some ds.isEmpty := by
    unfold deepB
    rw [e, e2]
    simp only [s1, s2, Bool.and_self, if_true]
    rw [D.py] at e
    cases ds with
    | nil =>
      have : D.pys [] = some [] := rfl
      rw [this] at e
      cases e
      rfl
    | cons d ds =>
      cases e3 : D.pys (d :: ds) with
      | none => rw [e3] at e; cases e
      | some ys =>
        rw [e3] at e
        cases e
        cases ys with
        | nil =>
          rw [D.pys] at e3
          cases e4 : d.py <;> cases e5 : D.pys ds <;> rw [e4, e5] at e3 <;> cases e3
        | cons y ys => rfl
  show (eqB (.tup ds) (.tup [])).map D.bl = _
  have : eqB (.tup ds) (.tup []) = deepB (.tup ds) (.tup []) := rfl
  rw [this, h3]
  rfl
theorem pt_sh (p : List Int) : Sh 1 (pt p) := Sh.tup fun d hd => by
  obtain ⟨i, _, rfl⟩ := List.mem_map.mp hd
  exact Sh.int i 0
theorem eq_pt (p : List Int) : eqD (pt p) (.tup []) = some (.bl (decide (p = []))) := by
  rw [eq_unit (pt_sh p) (by omega)]
  cases p <;> rfl
theorem eq_lt (o : Bool) (p : List Int) : eqD (.lst o (iL p)) (.lst true []) = some (.bl (decide (p = []))) := by
  cases p with
  | nil => cases o <;> rfl
  | cons x p =>
    have : iL (x :: p) = .int x :: iL p := rfl
    rw [this]
    simp [eqD, eqB]
theorem ne_lt (o : Bool) (p : List Int) : neD (.lst o (iL p)) (.lst true []) = some (.bl (!decide (p = []))) := by
  cases p with
  | nil => cases o <;> rfl
  | cons x p =>
    have : iL (x :: p) = .int x :: iL p := rfl
    rw [this]
    simp [neD, eqB]
theorem ix_last {p : List Int} (h : p ≠ []) (q : D) (hq : q = pt p ∨ ∃ o, q = .lst o (iL p)) : ixD q (.int (-1)) = some (.int (cf p (p.length - 1))) := by
  have l := List.length_pos_iff.mpr h
  have e : L2.atI (iL p) (-1) = some (.int (cf p (p.length - 1))) := by
    unfold L2.atI
    have : L2.ixN (iL p).length (-1) = some (p.length - 1) := by
      unfold L2.ixN
      rw [if_neg (by omega), if_pos (by rw [iL_len]; omega), iL_len]
      congr 1
      omega
    rw [this]
    exact iL_at (by omega)
  rcases hq with rfl | ⟨o, rfl⟩
  · show plO (L2.atI (iL p) (-1)) = _
    rw [e]
    rfl
  · show plO (L2.atI (iL p) (-1)) = _
    rw [e]
    rfl
/-! ### the law's own product -/
abbrev ptB : SDen := sSto 2 (bin addD (nm 3) (nm 4)) (bin modD (uno intD (bin addD (bin ixD (nm 2) (bin addD (nm 3) (nm 4))) (bin mulD (bin ixD (nm 0) (nm 3)) (bin ixD (nm 1) (nm 4))))) (cst (.int 2147483647)))
theorem ow_body {p q M : List Int} {t j : Nat} (hp : Res p) (hq : Res q) (ht : t < p.length) (hj : j < q.length) (hk : t + j < M.length) : ptB [pt p, pt q, .lst true (iL M), .int (t : Int), .int (j : Int)] = .nx [pt p, pt q, .lst true (iL (M.set (t + j) ((cf M (t + j) + cf p t * cf q j) % 2147483647))), .int (t : Int), .int (j : Int)] := by
  have m := mulR (hp.cf t) (hq.cf j)
  have ix := ixl_i (o := true) hk
  have i1 := ixt_i ht
  have i2 := ixt_i hj
  have e : ((t + j : Nat) : Int) = (t : Int) + (j : Int) := by omega
  have pu := fun v => put_i (o := .un) (M := M) (τ := [pt p, pt q, .lst true (iL M), .int (t : Int), .int (j : Int)]) (i := 2) (v := v) hk rfl
  rw [e] at ix
  simp only [e] at pu
  simp [ptB, nk0, fnD, sSto, onE, Rz.bind, nm, cst, bin, uno, intD, Hdl.get, addD, iop, iopC, modD, modC, mulD, m, ix, i1, i2, pu]
theorem ow_in {p q M : List Int} {s4 : D} {t : Nat} (hp : Res p) (hq : Res q) (ht : t < p.length) (hl : t + q.length ≤ M.length) : ∃ s4', forL (gN 4) ptB ((List.range q.length).map fun (k : Nat) => D.int (k : Int)) [pt p, pt q, .lst true (iL M), .int (t : Int), s4] = .nx [pt p, pt q, .lst true (iL (adL M t (cf p t) q)), .int (t : Int), s4'] := by
  obtain ⟨τ', e, s4', h⟩ := in_loop (B := ptB) (g := gN 4) (ds := (List.range q.length).map fun (k : Nat) => D.int (k : Int)) (T := fun M τ => ∃ s4', τ = [pt p, pt q, .lst true (iL M), .int (t : Int), s4']) (r := M) (b := q) (a := t) (x := cf p t) hl (by simp) ⟨s4, rfl⟩ fun j d M' τ hd hj hM hT => by
    obtain ⟨s4', rfl⟩ := hT
    obtain ⟨_, rfl⟩ := range_i hd
    exact ⟨[pt p, pt q, .lst true (iL M'), .int (t : Int), .int (j : Int)], _, by simp [gN], ow_body hp hq ht hj (by omega), _, rfl⟩
  exact ⟨s4', by rw [e, h]⟩
theorem ow_out {p q : List Int} {s3 s4 : D} (hp : Res p) (hq : Res q) (hp0 : p ≠ []) (hq0 : q ≠ []) (l2' : q.length ≤ 100) : ∃ s3' s4', forL (gN 3) (sFor (rgS1 (uno lenD (nm 1))) (gN 4) (sSto 2 (bin addD (nm 3) (nm 4)) (bin modD (uno intD (bin addD (bin ixD (nm 2) (bin addD (nm 3) (nm 4))) (bin mulD (bin ixD (nm 0) (nm 3)) (bin ixD (nm 1) (nm 4))))) (cst (.int 2147483647))))) ((List.range p.length).map fun (k : Nat) => D.int (k : Int)) [pt p, pt q, .lst true (iL (List.replicate (p.length + q.length - 1) 0)), s3, s4] = .nx [pt p, pt q, .lst true (iL (prL p q)), s3', s4'] := by
  have l1 := List.length_pos_iff.mpr hp0
  have l2 := List.length_pos_iff.mpr hq0
  have lq := iL_len q
  obtain ⟨τ', e, M, s3', s4', h, h1, h2⟩ := forL_inv (g := gN 3) (p := (sFor (rgS1 (uno lenD (nm 1))) (gN 4) (sSto 2 (bin addD (nm 3) (nm 4)) (bin modD (uno intD (bin addD (bin ixD (nm 2) (bin addD (nm 3) (nm 4))) (bin mulD (bin ixD (nm 0) (nm 3)) (bin ixD (nm 1) (nm 4))))) (cst (.int 2147483647)))))) (ds := (List.range p.length).map fun (k : Nat) => D.int (k : Int)) (τ := [pt p, pt q, .lst true (iL (List.replicate (p.length + q.length - 1) 0)), s3, s4])
    (fun t τ => ∃ M s3' s4', τ = [pt p, pt q, .lst true (iL M), s3', s4'] ∧ M.length = p.length + q.length - 1 ∧ ∀ k, cf M k = cm (p.take t) q k % 2147483647) (fun t d τ hd hI => by
      obtain ⟨M, s3', s4', rfl, h1, h2⟩ := hI
      obtain ⟨ht, rfl⟩ := range_i hd
      have stp := prL_step ht h1 h2
      obtain ⟨s4'', ei⟩ := ow_in (M := M) (s4 := s4') hp hq ht (by omega)
      have bd : (sFor (rgS1 (uno lenD (nm 1))) (gN 4) (sSto 2 (bin addD (nm 3) (nm 4)) (bin modD (uno intD (bin addD (bin ixD (nm 2) (bin addD (nm 3) (nm 4))) (bin mulD (bin ixD (nm 0) (nm 3)) (bin ixD (nm 1) (nm 4))))) (cst (.int 2147483647))))) [pt p, pt q, .lst true (iL M), .int (t : Int), s4'] = .nx [pt p, pt q, .lst true (iL (adL M t (cf p t) q)), .int (t : Int), s4''] :=
        (for_of (ds := (List.range q.length).map fun (k : Nat) => D.int (k : Int)) (τ1 := [pt p, pt q, .lst true (iL M), .int (t : Int), s4']) (rgS1_of (h := .val (.int (q.length : Int))) (by simp [nk0, fnD, outD, sq, sRet, sIf, sNil, sExpr, sSet, sPar, sPar3, sAsg, sSto, putAt, onE, onT, andV, orV, notV, andT, orT, notT, ifE, tst, Rz.bind, nm, vl, cst, bin, uno, chn, dsp, acons, anil, callD, okA, lendD, wbD, runL, mtD, appL, extL, popL, Hdl.get, valsOf, D.nks, D.nk, D.pl, D.pls, D.frz, D.frzs, nkU, isiD, isiB, iop, iopC, ltD, leD, gtD, geD, addD, subD, mulD, modD, fdivD, negD, modC, isND, notND, isNB, ixD, plO, gN, gT, gU, gC, gNo, lamD, frzAll, cloOf, onlyD, fz, astar, sRaise, lenD, lq]) rfl (by omega))).trans ei
      exact ⟨_, _, rfl, .inl bd, _, _, _, rfl, by rw [adL_len]; exact h1, stp⟩) ⟨_, _, _, rfl, by simp, fun k => by rw [zeros_cf, List.take_zero]; rfl⟩
  rw [List.length_map, List.length_range] at h2
  rw [e, h, prL_end hp0 hq0 h1 h2]
  exact ⟨_, _, rfl⟩
theorem own_times {p q : List Int} (hp : Res p) (hq : Res q) (l1 : p.length ≤ 100) (l2 : q.length ≤ 100) : d_law_c2_times [pt p, pt q] = .ok (pt (prL p q)) [pt p, pt q] := by
  have np := iL_nk p
  have nq := iL_nk q
  have nr := iL_nk (prL p q)
  have pr := iL_pl (prL p q)
  have lp := iL_len p
  have lq := iL_len q
  have ep := eq_pt p
  have eq := eq_pt q
  by_cases h0 : p = [] ∨ q = []
  · have e : prL p q = [] := if_pos h0
    rw [e]
    have en : iL [] = [] := rfl
    by_cases z : p = []
    · rw [decide_eq_true z] at ep
      simp [d_law_c2_times, b_law_c2_times, fx_law_c2_times, nk0, fnD, outD, sq, sRet, sIf, sNil, sExpr, sSet, sPar, sPar3, sAsg, sSto, putAt, onE, onT, andV, orV, notV, andT, orT, notT, ifE, tst, Rz.bind, nm, vl, cst, bin, uno, chn, dsp, acons, anil, callD, okA, lendD, wbD, runL, mtD, appL, extL, popL, Hdl.get, valsOf, D.nks, D.nk, D.pl, D.pls, D.frz, D.frzs, nkU, isiD, isiB, iop, iopC, ltD, leD, gtD, geD, addD, subD, mulD, modD, fdivD, negD, modC, isND, notND, isNB, ixD, plO, gN, gT, gU, gC, gNo, lamD, frzAll, cloOf, onlyD, fz, astar, sRaise, ep, en, np, nq]
    · have zq : q = [] := h0.resolve_left z
      rw [decide_eq_false z] at ep
      rw [decide_eq_true zq] at eq
      simp [d_law_c2_times, b_law_c2_times, fx_law_c2_times, nk0, fnD, outD, sq, sRet, sIf, sNil, sExpr, sSet, sPar, sPar3, sAsg, sSto, putAt, onE, onT, andV, orV, notV, andT, orT, notT, ifE, tst, Rz.bind, nm, vl, cst, bin, uno, chn, dsp, acons, anil, callD, okA, lendD, wbD, runL, mtD, appL, extL, popL, Hdl.get, valsOf, D.nks, D.nk, D.pl, D.pls, D.frz, D.frzs, nkU, isiD, isiB, iop, iopC, ltD, leD, gtD, geD, addD, subD, mulD, modD, fdivD, negD, modC, isND, notND, isNB, ixD, plO, gN, gT, gU, gC, gNo, lamD, frzAll, cloOf, onlyD, fz, astar, sRaise, ep, eq, en, np, nq]
  · have hp0 : p ≠ [] := fun z => h0 (.inl z)
    have hq0 : q ≠ [] := fun z => h0 (.inr z)
    have l3 := List.length_pos_iff.mpr hp0
    have l4 := List.length_pos_iff.mpr hq0
    have zm := zeros_mul (p.length + q.length - 1) (by omega)
    have ec : ((p.length + q.length - 1 : Nat) : Int) = (p.length : Int) + (q.length : Int) - 1 := by omega
    rw [ec] at zm
    obtain ⟨s3, s4, e⟩ := ow_out (s3 := .un) (s4 := .un) hp hq hp0 hq0 l2
    have hb : b_law_c2_times [pt p, pt q, .un, .un, .un] = .rt (pt (prL p q)) [pt p, pt q, .lst true (iL (prL p q)), s3, s4] := by
      unfold b_law_c2_times
      refine (sq_nx (τ1 := [pt p, pt q, .un, .un, .un]) (by simp [nk0, fnD, outD, sq, sRet, sIf, sNil, sExpr, sSet, sPar, sPar3, sAsg, sSto, putAt, onE, onT, andV, orV, notV, andT, orT, notT, ifE, tst, Rz.bind, nm, vl, cst, bin, uno, chn, dsp, acons, anil, callD, okA, lendD, wbD, runL, mtD, appL, extL, popL, Hdl.get, valsOf, D.nks, D.nk, D.pl, D.pls, D.frz, D.frzs, nkU, isiD, isiB, iop, iopC, ltD, leD, gtD, geD, addD, subD, mulD, modD, fdivD, negD, modC, isND, notND, isNB, ixD, plO, gN, gT, gU, gC, gNo, lamD, frzAll, cloOf, onlyD, fz, astar, sRaise, ep, eq, hp0, hq0])).trans ?_
      refine (sq_nx (τ1 := [pt p, pt q, .lst true (iL (List.replicate (p.length + q.length - 1) 0)), .un, .un]) (by simp [nk0, fnD, outD, sq, sRet, sIf, sNil, sExpr, sSet, sPar, sPar3, sAsg, sSto, putAt, onE, onT, andV, orV, notV, andT, orT, notT, ifE, tst, Rz.bind, nm, vl, cst, bin, uno, chn, dsp, acons, anil, callD, okA, lendD, wbD, runL, mtD, appL, extL, popL, Hdl.get, valsOf, D.nks, D.nk, D.pl, D.pls, D.frz, D.frzs, nkU, isiD, isiB, iop, iopC, ltD, leD, gtD, geD, addD, subD, modD, fdivD, negD, modC, isND, notND, isNB, gN, gT, gU, gC, gNo, lamD, frzAll, cloOf, onlyD, fz, astar, sRaise, lenD, lp, lq, zm])).trans ?_
      refine (sq_nx (τ1 := [pt p, pt q, .lst true (iL (prL p q)), s3, s4]) ?_).trans (by simp [nk0, fnD, outD, sq, sRet, sIf, sNil, sExpr, sSet, sPar, sPar3, sAsg, sSto, putAt, onE, onT, andV, orV, notV, andT, orT, notT, ifE, tst, Rz.bind, nm, vl, cst, bin, uno, chn, dsp, acons, anil, callD, okA, lendD, wbD, runL, mtD, appL, extL, popL, Hdl.get, valsOf, D.nks, D.nk, D.pl, D.pls, D.frz, D.frzs, nkU, isiD, isiB, iop, iopC, ltD, leD, gtD, geD, addD, subD, mulD, modD, fdivD, negD, modC, isND, notND, isNB, ixD, plO, gN, gT, gU, gC, gNo, lamD, frzAll, cloOf, onlyD, fz, astar, sRaise, tupleD, pr])
      exact (for_of (ds := (List.range p.length).map fun (k : Nat) => D.int (k : Int)) (τ1 := [pt p, pt q, .lst true (iL (List.replicate (p.length + q.length - 1) 0)), .un, .un]) (rgS1_of (h := .val (.int (p.length : Int))) (by simp [nk0, fnD, outD, sq, sRet, sIf, sNil, sExpr, sSet, sPar, sPar3, sAsg, sSto, putAt, onE, onT, andV, orV, notV, andT, orT, notT, ifE, tst, Rz.bind, nm, vl, cst, bin, uno, chn, dsp, acons, anil, callD, okA, lendD, wbD, runL, mtD, appL, extL, popL, Hdl.get, valsOf, D.nks, D.nk, D.pl, D.pls, D.frz, D.frzs, nkU, isiD, isiB, iop, iopC, ltD, leD, gtD, geD, addD, subD, mulD, modD, fdivD, negD, modC, isND, notND, isNB, ixD, plO, gN, gT, gU, gC, gNo, lamD, frzAll, cloOf, onlyD, fz, astar, sRaise, lenD, lp]) rfl (by omega))).trans e
    exact (nk0_ok (d := pt (prL p q)) rfl (by simp [D.nks, D.nk, np, nq]) hb (show D.nk (pt (prL p q)) = true from nr) (by simp [outD, fx_law_c2_times, nkU, D.nk, np, nq])).trans (by simp [outD, fx_law_c2_times])
end Law
end

section
set_option Elab.async false
set_option linter.all false
set_option maxRecDepth 100000
set_option maxHeartbeats 4000000
namespace Law
open Y Num
/-! ### last noughts put aside -/
theorem cut_at {p : List Int} : ∀ {n : Nat}, n ≤ p.length → (∀ k, n ≤ k → cf p k = 0) → (n = 0 ∨ cf p (n - 1) ≠ 0) → p.take n = cuL p := fun {n} hn hz h0 => by
  have ct : ∀ k, cf (p.take n) k = cf p k := fun k => by
    by_cases hk : k < n
    · unfold cf
      rw [List.getElem?_take_of_lt hk]
    · rw [hz k (by omega), cf_ge (by rw [List.length_take]; omega)]
  refine cut_one ?_ (cuL_last p) fun k => by rw [ct, cuL_cf]
  have hl : (p.take n).length = n := by rw [List.length_take]; omega
  rcases h0 with h0 | h0
  · exact .inl (by rw [h0]; rfl)
  · exact .inr (by rw [hl, ct]; exact h0)
abbrev tmT : Den Bool := andT (tst (bin gtD (nm 1) (cst (.int 0)))) (tst (bin eqD (bin ixD (nm 0) (bin subD (nm 1) (cst (.int 1)))) (cst (.int 0))))
abbrev tmB : SDen := sSet 1 (bin subD (nm 1) (cst (.int 1)))
theorem ix_ints {q : D} {xs : List Int} (hq : q = pt xs ∨ ∃ o, q = .lst o (iL xs)) {i : Nat} (h : i < xs.length) : ixD q (.int (i : Int)) = some (.int (cf xs i)) := by
  rcases hq with rfl | ⟨o, rfl⟩
  · exact ixt_i h
  · exact ixl_i h
theorem tm_loop {q : D} {p : List Int} (hq : q = pt p ∨ ∃ o, q = .lst o (iL p)) : ∀ (n m : Nat), n ≤ p.length → n < m → (∀ k, n ≤ k → cf p k = 0) → ∃ r : Nat, r ≤ p.length ∧ p.take r = cuL p ∧ sWhile m tmT tmB [q, .int (n : Int)] = .nx [q, .int (r : Int)]
  | n, 0, h1, h2, hz => by omega
  | 0, m + 1, h1, h2, hz => by
    have t0 : tmT [q, .int ((0 : Nat) : Int)] = .ok false [q, .int ((0 : Nat) : Int)] := by
      simp [tmT, nk0, fnD, outD, sq, sRet, sIf, sNil, sExpr, sSet, sPar, sPar3, sAsg, sSto, putAt, onE, onT, andV, orV, notV, andT, orT, notT, ifE, tst, Rz.bind, nm, vl, cst, bin, uno, chn, dsp, acons, anil, callD, okA, lendD, wbD, runL, mtD, appL, extL, popL, Hdl.get, valsOf, D.nks, D.nk, D.pl, D.pls, D.frz, D.frzs, nkU, isiD, isiB, iop, iopC, ltD, leD, gtD, geD, addD, subD, mulD, modD, fdivD, negD, modC, isND, notND, isNB, ixD, plO, gN, gT, gU, gC, gNo, lamD, frzAll, cloOf, onlyD, fz, astar, sRaise]
    exact ⟨0, Nat.zero_le _, cut_at (Nat.zero_le _) hz (.inl rfl), sWhile_stop t0⟩
  | n + 1, m + 1, h1, h2, hz => by
    have e := ix_ints hq (show n < p.length by omega)
    have nq : q ≠ .un := by
      rcases hq with rfl | ⟨o, rfl⟩ <;> exact fun z => by cases z
    have c : ((n + 1 : Nat) : Int) - 1 = (n : Int) := by omega
    have ps : decide ((0 : Int) < ((n + 1 : Nat) : Int)) = true := decide_eq_true (by omega)
    have t1 : tmT [q, .int ((n + 1 : Nat) : Int)] = .ok (decide (cf p n = 0)) [q, .int ((n + 1 : Nat) : Int)] := by
      generalize ((n + 1 : Nat) : Int) = k at *
      cases q <;> first | exact absurd rfl nq | simp [tmT, nk0, fnD, outD, sq, sRet, sIf, sNil, sExpr, sSet, sPar, sPar3, sAsg, sSto, putAt, onE, onT, andV, orV, notV, andT, orT, notT, ifE, tst, Rz.bind, nm, vl, cst, bin, uno, chn, dsp, acons, anil, callD, okA, lendD, wbD, runL, mtD, appL, extL, popL, Hdl.get, valsOf, D.nks, D.nk, D.pl, D.pls, D.frz, D.frzs, nkU, isiD, isiB, iop, iopC, ltD, leD, gtD, geD, addD, subD, mulD, modD, fdivD, negD, modC, isND, notND, isNB, gN, gT, gU, gC, gNo, lamD, frzAll, cloOf, onlyD, fz, astar, sRaise, c, ps, e, eqD, eqB]
    by_cases z : cf p n = 0
    · rw [decide_eq_true z] at t1
      have b1 : tmB [q, .int ((n + 1 : Nat) : Int)] = .nx [q, .int (n : Int)] := by
        generalize ((n + 1 : Nat) : Int) = k at *
        simp [tmB, nk0, fnD, outD, sq, sRet, sIf, sNil, sExpr, sSet, sPar, sPar3, sAsg, sSto, putAt, onE, onT, andV, orV, notV, andT, orT, notT, ifE, tst, Rz.bind, nm, vl, cst, bin, uno, chn, dsp, acons, anil, callD, okA, lendD, wbD, runL, mtD, appL, extL, popL, Hdl.get, valsOf, D.nks, D.nk, D.pl, D.pls, D.frz, D.frzs, nkU, isiD, isiB, iop, iopC, ltD, leD, gtD, geD, addD, subD, mulD, modD, fdivD, negD, modC, isND, notND, isNB, ixD, plO, gN, gT, gU, gC, gNo, lamD, frzAll, cloOf, onlyD, fz, astar, sRaise, c]
      obtain ⟨r, r1, r2, r3⟩ := tm_loop hq n m (by omega) (by omega) fun k hk => by
        by_cases e : k = n
        · rw [e, z]
        · exact hz k (by omega)
      exact ⟨r, r1, r2, by rw [sWhile_go t1 b1, r3]⟩
    · rw [decide_eq_false z] at t1
      exact ⟨n + 1, h1, cut_at h1 hz (.inr z), sWhile_stop t1⟩
theorem cut_iL (p : List Int) {n : Nat} (h : n ≤ p.length) : cutD (iL p) none (some (n : Int)) = iL (p.take n) := by
  unfold cutD
  rw [HT.sIx_none, HT.sIx_nat, List.drop_zero, Nat.sub_zero]
  unfold iL
  rw [List.length_map, Nat.min_eq_left h, List.map_take]
theorem trimmed_ok {q : D} {p : List Int} (hq : q = pt p ∨ ∃ o, q = .lst o (iL p)) (hl : p.length < 1000) : d_trimmed [q] = .ok (.lst true (iL (cuL p))) [q] := by
  obtain ⟨r, r1, r2, e⟩ := tm_loop hq p.length 1000 (Nat.le_refl _) hl fun k hk => cf_ge hk
  have pl := iL_pl p
  have nk := iL_nk p
  have lp := iL_len p
  have hc := cut_iL p r1
  rw [r2] at hc
  have e0 : sSet 1 (uno lenD (nm 0)) [q, .un] = .nx [q, .int (p.length : Int)] := by
    rcases hq with rfl | ⟨o, rfl⟩ <;> simp [nk0, fnD, outD, sq, sRet, sIf, sNil, sExpr, sSet, sPar, sPar3, sAsg, sSto, putAt, onE, onT, andV, orV, notV, andT, orT, notT, ifE, tst, Rz.bind, nm, vl, cst, bin, uno, chn, dsp, acons, anil, callD, okA, lendD, wbD, runL, mtD, appL, extL, popL, Hdl.get, valsOf, D.nks, D.nk, D.pl, D.pls, D.frz, D.frzs, nkU, isiD, isiB, iop, iopC, ltD, leD, gtD, geD, addD, subD, mulD, modD, fdivD, negD, modC, isND, notND, isNB, ixD, plO, gN, gT, gU, gC, gNo, lamD, frzAll, cloOf, onlyD, fz, astar, sRaise, lenD, lp]
  have hb : b_trimmed [q, .un] = .rt (.lst true (iL (cuL p))) [q, .int (r : Int)] := by
    unfold b_trimmed
    refine (sq_nx e0).trans ((sq_nx e).trans ?_)
    generalize (r : Int) = k at *
    rcases hq with rfl | ⟨o, rfl⟩ <;> simp [nk0, fnD, outD, sq, sRet, sIf, sNil, sExpr, sSet, sPar, sPar3, sAsg, sSto, putAt, onE, onT, andV, orV, notV, andT, orT, notT, ifE, tst, Rz.bind, nm, vl, cst, bin, uno, chn, dsp, acons, anil, callD, okA, lendD, wbD, runL, mtD, appL, extL, popL, Hdl.get, valsOf, D.nks, D.nk, D.pl, D.pls, D.frz, D.frzs, nkU, isiD, isiB, iop, iopC, ltD, leD, gtD, geD, addD, subD, mulD, modD, fdivD, negD, modC, isND, notND, isNB, ixD, plO, gN, gT, gU, gC, gNo, lamD, frzAll, cloOf, onlyD, fz, astar, sRaise, slc, slcD, pn, pso, listD, pl, hc, iL_pl]
  refine (nk0_ok (d := .lst true (iL (cuL p))) rfl ?_ hb (iL_nk (cuL p)) ?_).trans ?_
  · rcases hq with rfl | ⟨o, rfl⟩ <;> simp [D.nks, D.nk, nk]
  · rcases hq with rfl | ⟨o, rfl⟩ <;> simp [outD, fx_trimmed, nkU, D.nk, nk]
  · simp [outD, fx_trimmed]
/-! ### the law's own cut -/
abbrev ctT : Den Bool := andT (tst (bin neD (nm 1) (dsp (.lst true) (anil)))) (tst (bin eqD (bin ixD (nm 1) (uno negD (cst (.int 1)))) (cst (.int 0))))
abbrev ctB : SDen := sExpr (runL popL 1 [])
theorem iL_last {p : List Int} (h : p ≠ []) : (iL p).getLast? = some (.int (cf p (p.length - 1))) ∧ (iL p).dropLast = iL p.dropLast := by
  have l := List.length_pos_iff.mpr h
  refine ⟨?_, ?_⟩
  · rw [List.getLast?_eq_getElem?, iL_len, iL_at (by omega)]
  · unfold iL
    rw [List.map_dropLast]
theorem ct_loop {x : D} : ∀ (m : Nat) (p : List Int), p.length < m → sWhile m ctT ctB [x, .lst true (iL p)] = .nx [x, .lst true (iL (cuL p))]
  | 0, p, h => by omega
  | m + 1, p, h => by
    by_cases hp : p = []
    · subst hp
      have ne : neD (.lst true (iL [])) (.lst true []) = some (.bl false) := rfl
      exact sWhile_stop (by simp [ctT, nk0, fnD, outD, sq, sRet, sIf, sNil, sExpr, sSet, sPar, sPar3, sAsg, sSto, putAt, onE, onT, andV, orV, notV, andT, orT, notT, ifE, tst, Rz.bind, nm, vl, cst, bin, uno, chn, dsp, acons, anil, callD, okA, lendD, wbD, runL, mtD, appL, extL, popL, Hdl.get, valsOf, D.nks, D.nk, D.pl, D.pls, D.frz, D.frzs, nkU, isiD, isiB, iop, iopC, ltD, leD, gtD, geD, addD, subD, mulD, modD, fdivD, negD, modC, isND, notND, isNB, ixD, plO, gN, gT, gU, gC, gNo, lamD, frzAll, cloOf, onlyD, fz, astar, sRaise, ne]; rfl)
    · have ne := ne_lt true p
      rw [decide_eq_false hp] at ne
      have ix := ix_last hp (.lst true (iL p)) (.inr ⟨true, rfl⟩)
      have t1 : ctT [x, .lst true (iL p)] = .ok (decide (cf p (p.length - 1) = 0)) [x, .lst true (iL p)] := by
        simp [ctT, nk0, fnD, outD, sq, sRet, sIf, sNil, sExpr, sSet, sPar, sPar3, sAsg, sSto, putAt, onE, onT, andV, orV, notV, andT, orT, notT, ifE, tst, Rz.bind, nm, vl, cst, bin, uno, chn, dsp, acons, anil, callD, okA, lendD, wbD, runL, mtD, appL, extL, popL, Hdl.get, valsOf, D.nks, D.nk, D.pl, D.pls, D.frz, D.frzs, nkU, isiD, isiB, iop, iopC, ltD, leD, gtD, geD, addD, subD, mulD, modD, fdivD, negD, modC, isND, notND, isNB, gN, gT, gU, gC, gNo, lamD, frzAll, cloOf, onlyD, fz, astar, sRaise, ne, ix, eqD, eqB]
      by_cases z : cf p (p.length - 1) = 0
      · rw [decide_eq_true z] at t1
        obtain ⟨g1, g2⟩ := iL_last hp
        have b1 : ctB [x, .lst true (iL p)] = .nx [x, .lst true (iL p.dropLast)] := by
          simp [ctB, nk0, fnD, outD, sq, sRet, sIf, sNil, sExpr, sSet, sPar, sPar3, sAsg, sSto, putAt, onE, onT, andV, orV, notV, andT, orT, notT, ifE, tst, Rz.bind, nm, vl, cst, bin, uno, chn, dsp, acons, anil, callD, okA, lendD, wbD, runL, mtD, appL, extL, popL, Hdl.get, valsOf, D.nks, D.nk, D.pl, D.pls, D.frz, D.frzs, nkU, isiD, isiB, iop, iopC, ltD, leD, gtD, geD, addD, subD, mulD, modD, fdivD, negD, modC, isND, notND, isNB, ixD, plO, gN, gT, gU, gC, gNo, lamD, frzAll, cloOf, onlyD, fz, astar, sRaise, g1, g2]
        rw [sWhile_go t1 b1, ct_loop m p.dropLast (by rw [List.length_dropLast]; have := List.length_pos_iff.mpr hp; omega), cuL_step hp z]
      · rw [decide_eq_false z] at t1
        rw [sWhile_stop t1, cuL_id (.inr z)]
theorem own_cut {p : List Int} (hl : p.length < 1000) : d_law_c2_cut [pt p] = .ok (pt (cuL p)) [pt p] := by
  have pl := iL_pl p
  have nk := iL_nk p
  have e := ct_loop (x := pt p) 1000 p hl
  have hb : b_law_c2_cut [pt p, .un] = .rt (pt (cuL p)) [pt p, .lst true (iL (cuL p))] := by
    unfold b_law_c2_cut
    exact (sq_nx (τ1 := [pt p, .lst true (iL p)]) (by simp [nk0, fnD, outD, sq, sRet, sIf, sNil, sExpr, sSet, sPar, sPar3, sAsg, sSto, putAt, onE, onT, andV, orV, notV, andT, orT, notT, ifE, tst, Rz.bind, nm, vl, cst, bin, uno, chn, dsp, acons, anil, callD, okA, lendD, wbD, runL, mtD, appL, extL, popL, Hdl.get, valsOf, D.nks, D.nk, D.pl, D.pls, D.frz, D.frzs, nkU, isiD, isiB, iop, iopC, ltD, leD, gtD, geD, addD, subD, mulD, modD, fdivD, negD, modC, isND, notND, isNB, ixD, plO, gN, gT, gU, gC, gNo, lamD, frzAll, cloOf, onlyD, fz, astar, sRaise, listD, pl])).trans ((sq_nx e).trans (by simp [nk0, fnD, outD, sq, sRet, sIf, sNil, sExpr, sSet, sPar, sPar3, sAsg, sSto, putAt, onE, onT, andV, orV, notV, andT, orT, notT, ifE, tst, Rz.bind, nm, vl, cst, bin, uno, chn, dsp, acons, anil, callD, okA, lendD, wbD, runL, mtD, appL, extL, popL, Hdl.get, valsOf, D.nks, D.nk, D.pl, D.pls, D.frz, D.frzs, nkU, isiD, isiB, iop, iopC, ltD, leD, gtD, geD, addD, subD, mulD, modD, fdivD, negD, modC, isND, notND, isNB, ixD, plO, gN, gT, gU, gC, gNo, lamD, frzAll, cloOf, onlyD, fz, astar, sRaise, tupleD, iL_pl]))
  exact (nk0_ok (d := pt (cuL p)) rfl (by simp [D.nks, D.nk, nk]) hb (iL_nk (cuL p)) (by simp [outD, fx_law_c2_cut, nkU, D.nk, nk])).trans (by simp [outD, fx_law_c2_cut])
end Law
end

section
set_option Elab.async false
set_option linter.all false
set_option maxRecDepth 100000
set_option maxHeartbeats 4000000
namespace Law
open Y Num
/-! ### the quotient, as the program makes it -/
abbrev qiB : SDen := sSto 2 (bin addD (nm 6) (nm 8)) (bin modD (bin subD (bin ixD (nm 2) (bin addD (nm 6) (nm 8))) (bin mulD (nm 7) (nm 9))) (cst (.int 2147483647)))
theorem qi_body {x y z w f : D} {M : List Int} {t j : Nat} {a b : Int} (ha : isR a) (hb : isR b) (hk : t + j < M.length) : qiB [x, y, .lst true (iL M), z, w, f, .int (t : Int), .int a, .int (j : Int), .int b] = .nx [x, y, .lst true (iL (M.set (t + j) ((cf M (t + j) + (-a) * b) % 2147483647))), z, w, f, .int (t : Int), .int a, .int (j : Int), .int b] := by
  have m := mulR ha hb
  have ix := ixl_i (o := true) hk
  have e : ((t + j : Nat) : Int) = (t : Int) + (j : Int) := by omega
  have pu := fun v => put_i (o := .un) (M := M) (τ := [x, y, .lst true (iL M), z, w, f, .int (t : Int), .int a, .int (j : Int), .int b]) (i := 2) (v := v) hk rfl
  rw [e] at ix
  simp only [e] at pu
  have en : cf M (t + j) + (-a) * b = cf M (t + j) - a * b := by rw [Int.neg_mul]; omega
  rw [en]
  simp [qiB, nk0, fnD, sSto, onE, Rz.bind, nm, cst, bin, Hdl.get, addD, subD, iop, iopC, modD, modC, mulD, m, ix, pu]
theorem qi_in {b M : List Int} {x y z w f s8 s9 : D} {t : Nat} {a : Int} (hb : Res b) (ha : isR a) (hl : t + b.length ≤ M.length) : ∃ s8' s9', forL (gT 2 (gC (gN 8) (gC (gN 9) (gNo)))) qiB (enumFrom' 0 (iL b)) [x, y, .lst true (iL M), z, w, f, .int (t : Int), .int a, s8, s9] = .nx [x, y, .lst true (iL (adL M t (-a) b)), z, w, f, .int (t : Int), .int a, s8', s9'] := by
  obtain ⟨τ', e, s8', s9', h⟩ := in_loop (B := qiB) (g := gT 2 (gC (gN 8) (gC (gN 9) (gNo)))) (ds := enumFrom' 0 (iL b)) (T := fun M τ => ∃ s8' s9', τ = [x, y, .lst true (iL M), z, w, f, .int (t : Int), .int a, s8', s9']) (r := M) (b := b) (a := t) (x := -a) hl (by rw [enum_length, iL_len]) ⟨s8, s9, rfl⟩ fun j d M' τ hd hj hM hT => by
    obtain ⟨s8', s9', rfl⟩ := hT
    obtain ⟨_, rfl⟩ := enum_i hd
    exact ⟨[x, y, .lst true (iL M'), z, w, f, .int (t : Int), .int a, .int (j : Int), .int (cf b j)], _, by simp [gT, gC, gN, gNo], qi_body ha (hb.cf j) (by omega), _, _, rfl⟩
  exact ⟨s8', s9', by rw [e, h]⟩
/-- what is found after so many steps -/
def fnd (n : Nat) (f : Nat → Int) (s : Nat) : List Int := List.replicate (n - s) 0 ++ ((List.range s).map f).reverse
theorem fnd_len {n : Nat} {f : Nat → Int} {s : Nat} (h : s ≤ n) : (fnd n f s).length = n := by
  unfold fnd
  simp
  omega
theorem fnd_set {n : Nat} {f : Nat → Int} {s : Nat} (h : s < n) : (fnd n f s).set (n - s - 1) (f s) = fnd n f (s + 1) := by
  unfold fnd
  have e : n - s = (n - (s + 1)) + 1 := by omega
  have l : (List.replicate (n - (s + 1)) (0 : Int)).length = n - (s + 1) := by simp
  rw [e, List.replicate_succ', List.append_assoc, Nat.add_sub_cancel, List.set_append_right _ _ (by rw [l]; omega), l, Nat.sub_self, List.range_succ, List.map_append, List.reverse_append]
  rfl
theorem fnd_end (n : Nat) (f : Nat → Int) : fnd n f n = ((List.range n).map f).reverse := by
  unfold fnd
  simp
theorem qo_loop {p q b r : List Int} {iv : Int} {s6 s7 s8 s9 : D} (hb : Res b) (hr : Res r) (hi : isR iv) (hb0 : b ≠ []) (hl : r.length ≤ 1000) : ∃ o s6' s7' s8' s9', forL (gN 6) (sq (sSet 7 (bin modD (bin mulD (bin ixD (nm 2) (bin subD (bin addD (nm 6) (uno lenD (nm 3))) (cst (.int 1)))) (nm 4)) (cst (.int 2147483647)))) (sq (sSto 5 (nm 6) (vl 7)) (sFor (enumS (vl 3)) (gT 2 (gC (gN 8) (gC (gN 9) (gNo)))) (sSto 2 (bin addD (nm 6) (nm 8)) (bin modD (bin subD (bin ixD (nm 2) (bin addD (nm 6) (nm 8))) (bin mulD (nm 7) (nm 9))) (cst (.int 2147483647))))))) (rgD ((r.length + 1 - b.length : Nat) - 1) (-1) (r.length + 1 - b.length)) [pt p, pt q, .lst true (iL r), .lst true (iL b), .int iv, .lst true (iL (List.replicate (r.length + 1 - b.length) 0)), s6, s7, s8, s9] =
    .nx [pt p, pt q, .lst true (iL (dvR b iv r (r.length + 1 - b.length))), .lst o (iL b), .int iv, .lst true (iL (dvQ b iv r)), s6', s7', s8', s9'] := by
  have b1 := List.length_pos_iff.mpr hb0
  have lb := iL_len b
  have fb := iL_frz b
  have pb := iL_pl b
  obtain ⟨N, hN⟩ : ∃ N, N = r.length + 1 - b.length := ⟨_, rfl⟩
  obtain ⟨τ', e, o, s6', s7', s8', s9', h⟩ := forL_inv (g := gN 6) (p := (sq (sSet 7 (bin modD (bin mulD (bin ixD (nm 2) (bin subD (bin addD (nm 6) (uno lenD (nm 3))) (cst (.int 1)))) (nm 4)) (cst (.int 2147483647)))) (sq (sSto 5 (nm 6) (vl 7)) (sFor (enumS (vl 3)) (gT 2 (gC (gN 8) (gC (gN 9) (gNo)))) (sSto 2 (bin addD (nm 6) (nm 8)) (bin modD (bin subD (bin ixD (nm 2) (bin addD (nm 6) (nm 8))) (bin mulD (nm 7) (nm 9))) (cst (.int 2147483647)))))))) (ds := rgD ((N : Int) - 1) (-1) N) (τ := [pt p, pt q, .lst true (iL r), .lst true (iL b), .int iv, .lst true (iL (List.replicate N 0)), s6, s7, s8, s9])
    (fun s τ => ∃ o s6' s7' s8' s9', τ = [pt p, pt q, .lst true (iL (dvR b iv r s)), .lst o (iL b), .int iv, .lst true (iL (fnd N (dvX b iv r) s)), s6', s7', s8', s9']) (fun s d τ hd hI => by
      obtain ⟨o, s6', s7', s8', s9', rfl⟩ := hI
      have hs : s < N := by
        have := (List.getElem?_eq_some_iff.mp hd).1
        simpa [rgD] using this
      rw [rgD_at hs] at hd
      have ea : (N : Int) - 1 + (s : Nat) * (-1) = ((N - s - 1 : Nat) : Int) := by omega
      rw [ea] at hd
      cases hd
      have lR := dvR_len b iv r s
      have rR := dvR_res (b := b) (iv := iv) hr s
      have hix : N - s - 1 + b.length - 1 < (dvR b iv r s).length := by rw [lR]; omega
      have ix := ixl_i (o := true) hix
      have ei : ((N - s - 1 + b.length - 1 : Nat) : Int) = ((N - s - 1 : Nat) : Int) + (b.length : Int) - 1 := by omega
      rw [ei] at ix
      have ex : cf (dvR b iv r s) (N - s - 1 + b.length - 1) * iv % 2147483647 = dvX b iv r s := by
        unfold dvX
        rw [← hN]
      have m := mulR (rR.cf (N - s - 1 + b.length - 1)) hi
      obtain ⟨s8'', s9'', ein⟩ := qi_in (x := pt p) (y := pt q) (z := .lst false (iL b)) (w := .int iv) (f := .lst true (iL (fnd N (dvX b iv r) (s + 1)))) (M := dvR b iv r s) (s8 := s8') (s9 := s9') (t := N - s - 1) (a := dvX b iv r s) hb (dvX_res _ _ _ _) (by rw [lR]; omega)
      have est : adL (dvR b iv r s) (N - s - 1) (-(dvX b iv r s)) b = dvR b iv r (s + 1) := by rw [dvR_succ, ← hN]
      rw [est] at ein
      have pu := put_i (o := .un) (M := fnd N (dvX b iv r) s) (τ := [pt p, pt q, .lst true (iL (dvR b iv r s)), .lst o (iL b), .int iv, .lst true (iL (fnd N (dvX b iv r) s)), .int ((N - s - 1 : Nat) : Int), .int (dvX b iv r s), s8', s9']) (i := 5) (k := N - s - 1) (v := dvX b iv r s) (by rw [fnd_len (by omega)]; omega) rfl
      rw [fnd_set hs] at pu
      refine ⟨_, [pt p, pt q, .lst true (iL (dvR b iv r (s + 1))), .lst false (iL b), .int iv, .lst true (iL (fnd N (dvX b iv r) (s + 1))), .int ((N - s - 1 : Nat) : Int), .int (dvX b iv r s), s8'', s9''], rfl, .inl ?_, _, _, _, _, _, rfl⟩
      show (sq (sSet 7 (bin modD (bin mulD (bin ixD (nm 2) (bin subD (bin addD (nm 6) (uno lenD (nm 3))) (cst (.int 1)))) (nm 4)) (cst (.int 2147483647)))) (sq (sSto 5 (nm 6) (vl 7)) (sFor (enumS (vl 3)) (gT 2 (gC (gN 8) (gC (gN 9) (gNo)))) (sSto 2 (bin addD (nm 6) (nm 8)) (bin modD (bin subD (bin ixD (nm 2) (bin addD (nm 6) (nm 8))) (bin mulD (nm 7) (nm 9))) (cst (.int 2147483647))))))) [pt p, pt q, .lst true (iL (dvR b iv r s)), .lst o (iL b), .int iv, .lst true (iL (fnd N (dvX b iv r) s)), .int ((N - s - 1 : Nat) : Int), s7', s8', s9'] = _
      generalize hA : ((N - s - 1 : Nat) : Int) = A at *
      refine (sq_nx (τ1 := [pt p, pt q, .lst true (iL (dvR b iv r s)), .lst o (iL b), .int iv, .lst true (iL (fnd N (dvX b iv r) s)), .int A, .int (dvX b iv r s), s8', s9']) ?_).trans ?_
      · simp [nk0, fnD, outD, sq, sRet, sIf, sNil, sExpr, sSet, sPar, sPar3, sAsg, sSto, putAt, onE, onT, andV, orV, notV, andT, orT, notT, ifE, tst, Rz.bind, nm, vl, cst, bin, uno, chn, dsp, acons, anil, callD, okA, lendD, wbD, runL, mtD, appL, extL, popL, Hdl.get, valsOf, D.nks, D.nk, D.pl, D.pls, D.frz, D.frzs, nkU, isiD, isiB, iop, iopC, ltD, leD, gtD, geD, addD, subD, mulD, modD, fdivD, negD, modC, isND, notND, isNB, gN, gT, gU, gC, gNo, lamD, frzAll, cloOf, onlyD, fz, astar, sRaise, lenD, lb, ix, m, ex]
      refine (sq_nx (τ1 := [pt p, pt q, .lst true (iL (dvR b iv r s)), .lst o (iL b), .int iv, .lst true (iL (fnd N (dvX b iv r) (s + 1))), .int A, .int (dvX b iv r s), s8', s9']) ?_).trans ?_
      · have pu' : putAt 5 (.int A) (.int (dvX b iv r s)) [pt p, pt q, .lst true (iL (dvR b iv r s)), .lst o (iL b), .int iv, .lst true (iL (fnd N (dvX b iv r) s)), .int A, .int (dvX b iv r s), s8', s9'] = some [pt p, pt q, .lst true (iL (dvR b iv r s)), .lst o (iL b), .int iv, .lst true (iL (fnd N (dvX b iv r) (s + 1))), .int A, .int (dvX b iv r s), s8', s9'] := pu
        simp [sSto, onE, Rz.bind, nm, vl, Hdl.get, D.frz, pu']
      exact (for_of (ds := enumFrom' 0 (iL b)) (τ1 := [pt p, pt q, .lst true (iL (dvR b iv r s)), .lst false (iL b), .int iv, .lst true (iL (fnd N (dvX b iv r) (s + 1))), .int A, .int (dvX b iv r s), s8', s9']) (by cases o <;> simp [enumS, nk0, fnD, outD, sq, sRet, sIf, sNil, sExpr, sSet, sPar, sPar3, sAsg, sSto, putAt, onE, onT, andV, orV, notV, andT, orT, notT, ifE, tst, Rz.bind, nm, vl, cst, bin, uno, chn, dsp, acons, anil, callD, okA, lendD, wbD, runL, mtD, appL, extL, popL, Hdl.get, valsOf, D.nks, D.nk, D.pl, D.pls, D.frz, D.frzs, nkU, isiD, isiB, iop, iopC, ltD, leD, gtD, geD, addD, subD, mulD, modD, fdivD, negD, modC, isND, notND, isNB, ixD, plO, gN, gT, gU, gC, gNo, lamD, frzAll, cloOf, onlyD, fz, astar, sRaise, seqOf, fb, pb])).trans ein) ⟨true, s6, s7, s8, s9, by unfold fnd; simp; rfl⟩
  subst hN
  refine ⟨o, s6', s7', s8', s9', ?_⟩
  have lr : (rgD (((r.length + 1 - b.length : Nat) : Int) - 1) (-1) (r.length + 1 - b.length)).length = r.length + 1 - b.length := by simp [rgD]
  rw [lr, fnd_end] at h
  rw [e, h]
  rfl
theorem zeros_max {b r : List Int} (hl : r.length ≤ 1000) : max2D (.int 0) (.int ((r.length : Int) - (b.length : Int) + 1)) = some (.int ((r.length + 1 - b.length : Nat) : Int)) := by
  show some (D.int (if (r.length : Int) - (b.length : Int) + 1 > 0 then (r.length : Int) - (b.length : Int) + 1 else 0)) = _
  congr 2
  split <;> omega
/-- .. without last noughts, or None -/
def quD (p q : List Int) (iv : Int) : D := match quL p q iv with
  | some x => .lst true (iL x)
  | none => .non
theorem quD_nk (p q : List Int) (iv : Int) : D.nk (quD p q iv) = true := by
  unfold quD
  split
  · exact iL_nk _
  · rfl
theorem last_ne {q : List Int} (h : cuL q ≠ []) : cf (cuL q) ((cuL q).length - 1) ≠ 0 := (cuL_last q).resolve_left h
theorem o_quotient {p q : List Int} {iv : Int} {g_inverse_of g_trimmed : List D → Rt} (hp : Res p) (hq : Res q) (lp : p.length ≤ 100) (lq : q.length ≤ 100) (h0 : cuL q ≠ []) (hi : isR iv) (c1 : g_inverse_of [.int (cf (cuL q) ((cuL q).length - 1))] = .ok (.int iv) [.int (cf (cuL q) ((cuL q).length - 1))])
    (c2 : g_trimmed [pt p] = .ok (.lst true (iL (cuL p))) [pt p]) (c3 : g_trimmed [pt q] = .ok (.lst true (iL (cuL q))) [pt q]) (c4 : ∀ r, r.length ≤ 100 → g_trimmed [.lst false (iL r)] = .ok (.lst true (iL (cuL r))) [.lst false (iL r)]) :
    nk0 (fnD 2 10 fx_quotient_of (B_quotient_of g_inverse_of g_trimmed)) [pt p, pt q] = .ok (quD p q iv) [pt p, pt q] := by
  have np := iL_nk p
  have nq := iL_nk q
  have pp := iL_pl p
  have pq := iL_pl q
  have lr : (cuL p).length ≤ 100 := Nat.le_trans (cuL_le p) lp
  obtain ⟨o, s6, s7, s8, s9, e⟩ := qo_loop (p := p) (q := q) (s6 := .un) (s7 := .un) (s8 := .un) (s9 := .un) (cuL_res hq) (cuL_res hp) hi h0 (r := cuL p) (by omega)
  have ixl := ix_last h0 (.lst true (iL (cuL q))) (.inr ⟨true, rfl⟩)
  have l1 := iL_len (cuL p)
  have l2 := iL_len (cuL q)
  have zm := zeros_mul ((cuL p).length + 1 - (cuL q).length) (by omega)
  have mx := zeros_max (b := cuL q) (r := cuL p) (by omega)
  have c5 := c4 (dvR (cuL q) iv (cuL p) ((cuL p).length + 1 - (cuL q).length)) (by rw [dvR_len]; exact lr)
  have l3 : (iL (List.replicate ((cuL p).length + 1 - (cuL q).length) 0)).length = (cuL p).length + 1 - (cuL q).length := by rw [iL_len]; simp
  obtain ⟨N, hN⟩ : ∃ N, N = (cuL p).length + 1 - (cuL q).length := ⟨_, rfl⟩
  rw [← hN] at e zm mx c5 l3
  have ch : B_quotient_of g_inverse_of g_trimmed [pt p, pt q, .un, .un, .un, .un, .un, .un, .un, .un] = (sRet (ifE (tst (bin eqD (callD g_trimmed (acons (vl 2) (anil))) (dsp (.lst true) (anil)))) (nm 5) (cst .non))) [pt p, pt q, .lst true (iL (dvR (cuL q) iv (cuL p) N)), .lst o (iL (cuL q)), .int iv, .lst true (iL (dvQ (cuL q) iv (cuL p))), s6, s7, s8, s9] := by
    unfold B_quotient_of
    have s0 : ∀ F0 : SDen, (sq (sPar 2 3 (acons (callD g_trimmed (acons (nm 0) (anil))) (acons (callD g_trimmed (acons (nm 1) (anil))) (anil)))) F0) [pt p, pt q, .un, .un, .un, .un, .un, .un, .un, .un] = F0 [pt p, pt q, .lst true (iL (cuL p)), .lst true (iL (cuL q)), .un, .un, .un, .un, .un, .un] := fun F0 => sq_nx (by simp [nk0, fnD, outD, sq, sRet, sIf, sNil, sExpr, sSet, sPar, sPar3, sAsg, sSto, putAt, onE, onT, andV, orV, notV, andT, orT, notT, ifE, tst, Rz.bind, nm, vl, cst, bin, uno, chn, dsp, acons, anil, callD, okA, lendD, wbD, runL, mtD, appL, extL, popL, Hdl.get, valsOf, D.nks, D.nk, D.pl, D.pls, D.frz, D.frzs, nkU, isiD, isiB, iop, iopC, ltD, leD, gtD, geD, addD, subD, mulD, modD, fdivD, negD, modC, isND, notND, isNB, ixD, plO, gN, gT, gU, gC, gNo, lamD, frzAll, cloOf, onlyD, fz, astar, sRaise, c2, c3, pp, pq])
    refine (s0 _).trans ?_
    refine (sq_nx (τ1 := [pt p, pt q, .lst true (iL (cuL p)), .lst true (iL (cuL q)), .int iv, .lst true (iL (List.replicate N 0)), .un, .un, .un, .un]) ?_).trans ?_
    · simp [nk0, fnD, outD, sq, ret_eq, retS, sIf, sNil, sExpr, sSet, sPar, sPar3, sAsg, sSto, putAt, onE, onT, andV, orV, notV, andT, orT, notT, ifE, tst, Rz.bind, nm_eq, vl_eq, cst, bin, uno, chn, dsp, acons, anil, callD, okA_nil, okA_val, okA_slot, lendD, wbD, runL, mtD, appL, extL, popL, Hdl.get, valsOf, D.nks, D.nk, D.pl, D.pls, D.frz, D.frzs, isiD, isiB, iop, iopC, ltD, leD, gtD, geD, addD, subD, modD, fdivD, negD, modC, isND, notND, isNB, gN, gT, gU, gC, gNo, lamD, frzAll_nil, frzAll_cons, cloOf, onlyD, fz, astar, sRaise, ixl, c1, lenD, l1, l2, mx, zm]
    refine sq_nx (τ1 := [pt p, pt q, .lst true (iL (dvR (cuL q) iv (cuL p) N)), .lst o (iL (cuL q)), .int iv, .lst true (iL (dvQ (cuL q) iv (cuL p))), s6, s7, s8, s9]) ?_
    refine (for_of (ds := rgD ((N : Int) - 1) (-1) N) (τ1 := [pt p, pt q, .lst true (iL (cuL p)), .lst true (iL (cuL q)), .int iv, .lst true (iL (List.replicate N 0)), .un, .un, .un, .un]) ?_).trans e
    have i1 : intOf (.val (.int ((N : Int) - 1))) [pt p, pt q, .lst true (iL (cuL p)), .lst true (iL (cuL q)), .int iv, .lst true (iL (List.replicate N 0)), .un, .un, .un, .un] = some ((N : Int) - 1) := intOf_val (by omega)
    have i2 : intOf (.val (.int (-1))) [pt p, pt q, .lst true (iL (cuL p)), .lst true (iL (cuL q)), .int iv, .lst true (iL (List.replicate N 0)), .un, .un, .un, .un] = some (-1) := intOf_val (by omega)
    have en : ((N : Int) - 1 - -1).toNat = N := by omega
    have en' : ((N : Int) - 1 + 1).toNat = N := by omega
    simp [rgS3, nk0, fnD, outD, sq, sRet, sIf, sNil, sExpr, sSet, sPar, sPar3, sAsg, sSto, putAt, onE, onT, andV, orV, notV, andT, orT, notT, ifE, tst, Rz.bind, nm, vl, cst, bin, uno, chn, dsp, acons, anil, callD, okA, lendD, wbD, runL, mtD, appL, extL, popL, Hdl.get, valsOf, D.nks, D.nk, D.pl, D.pls, D.frz, D.frzs, nkU, isiD, isiB, iop, iopC, ltD, leD, gtD, geD, addD, subD, mulD, modD, fdivD, negD, modC, isND, notND, isNB, ixD, plO, gN, gT, gU, gC, gNo, lamD, frzAll, cloOf, onlyD, fz, astar, sRaise, lenD, l3, i1, i2, en, en']
  have hb : ∃ τ, B_quotient_of g_inverse_of g_trimmed [pt p, pt q, .un, .un, .un, .un, .un, .un, .un, .un] = .rt (quD p q iv) (pt p :: pt q :: τ) := by
    rw [ch]
    have f1 := iL_frz (dvR (cuL q) iv (cuL p) N)
    have e1 := eq_lt true (cuL (dvR (cuL q) iv (cuL p) N))
    have er : quD p q iv = if cuL (dvR (cuL q) iv (cuL p) N) = [] then .lst true (iL (dvQ (cuL q) iv (cuL p))) else .non := by
      unfold quD quL
      rw [← hN]
      split <;> rename_i h
      · split at h
        · rename_i hc
          rw [if_pos hc]
          cases h
          rfl
        · cases h
      · split at h
        · cases h
        · rename_i hc
          rw [if_neg hc]
    rw [er]
    by_cases hc : cuL (dvR (cuL q) iv (cuL p) N) = []
    · rw [decide_eq_true hc] at e1
      rw [if_pos hc]
      exact ⟨[.lst false (iL (dvR (cuL q) iv (cuL p) N)), .lst o (iL (cuL q)), .int iv, .un, s6, s7, s8, s9], by simp [nk0, fnD, outD, sq, ret_eq, retS, sIf, sNil, sExpr, sSet, sPar, sPar3, sAsg, sSto, putAt, onE, onT, andV, orV, notV, andT, orT, notT, ifE, tst, Rz.bind, nm_eq, vl_eq, cst, bin, uno, chn, dsp, acons, anil, callD, okA_nil, okA_val, okA_slot, lendD, wbD, runL, mtD, appL, extL, popL, Hdl.get, valsOf, D.nks, D.nk, D.pl, D.pls, D.frz, D.frzs, isiD, isiB, iop, iopC, ltD, leD, gtD, geD, addD, subD, mulD, modD, fdivD, negD, modC, isND, notND, isNB, gN, gT, gU, gC, gNo, lamD, frzAll_nil, frzAll_cons, cloOf, onlyD, fz, astar, sRaise, f1, c5, e1]⟩
    · rw [decide_eq_false hc] at e1
      rw [if_neg hc]
      exact ⟨[.lst false (iL (dvR (cuL q) iv (cuL p) N)), .lst o (iL (cuL q)), .int iv, .lst true (iL (dvQ (cuL q) iv (cuL p))), s6, s7, s8, s9], by simp [nk0, fnD, outD, sq, ret_eq, retS, sIf, sNil, sExpr, sSet, sPar, sPar3, sAsg, sSto, putAt, onE, onT, andV, orV, notV, andT, orT, notT, ifE, tst, Rz.bind, nm_eq, vl_eq, cst, bin, uno, chn, dsp, acons, anil, callD, okA_nil, okA_val, okA_slot, lendD, wbD, runL, mtD, appL, extL, popL, Hdl.get, valsOf, D.nks, D.nk, D.pl, D.pls, D.frz, D.frzs, isiD, isiB, iop, iopC, ltD, leD, gtD, geD, addD, subD, mulD, modD, fdivD, negD, modC, isND, notND, isNB, gN, gT, gU, gC, gNo, lamD, frzAll_nil, frzAll_cons, cloOf, onlyD, fz, astar, sRaise, f1, c5, e1]⟩
  obtain ⟨τ, hb⟩ := hb
  exact (nk0_ok (d := quD p q iv) rfl (by simp [D.nks, D.nk, np, nq]) hb (quD_nk p q iv) (by simp [outD, fx_quotient_of, nkU, D.nk, np, nq])).trans (by simp [outD, fx_quotient_of])
end Law
end

section
set_option Elab.async false
set_option linter.all false
set_option maxRecDepth 100000
set_option maxHeartbeats 4000000
namespace Law
open Y Num
theorem quotient_of_ok {p q : List Int} {iv : Int} (hp : Res p) (hq : Res q) (lp : p.length ≤ 100) (lq : q.length ≤ 100) (h0 : cuL q ≠ []) (hi : isR iv) (c1 : d_inverse_of [.int (cf (cuL q) ((cuL q).length - 1))] = .ok (.int iv) [.int (cf (cuL q) ((cuL q).length - 1))]) : d_quotient_of [pt p, pt q] = .ok (quD p q iv) [pt p, pt q] :=
  o_quotient (g_inverse_of := d_inverse_of) (g_trimmed := d_trimmed) hp hq lp lq h0 hi c1 (trimmed_ok (.inl rfl) (by omega)) (trimmed_ok (.inl rfl) (by omega)) fun r hr => trimmed_ok (.inr ⟨false, rfl⟩) (by omega)
/-! ### the law's own quotient -/
abbrev oqB : SDen := sSto 2 (bin addD (nm 7) (nm 9)) (bin modD (uno intD (bin subD (bin ixD (nm 2) (bin addD (nm 7) (nm 9))) (bin mulD (nm 8) (bin ixD (nm 3) (nm 9))))) (cst (.int 2147483647)))
theorem oq_body {x y w f u : D} {b M : List Int} {t j : Nat} {a : Int} {s10 : D} (ha : isR a) (hb : Res b) (hj : j < b.length) (hk : t + j < M.length) : oqB [x, y, .lst true (iL M), pt b, w, f, u, .int (t : Int), .int a, .int (j : Int), s10] = .nx [x, y, .lst true (iL (M.set (t + j) ((cf M (t + j) + (-a) * cf b j) % 2147483647))), pt b, w, f, u, .int (t : Int), .int a, .int (j : Int), s10] := by
  have m := mulR ha (hb.cf j)
  have ix := ixl_i (o := true) hk
  have ib := ixt_i hj
  have e : ((t + j : Nat) : Int) = (t : Int) + (j : Int) := by omega
  have pu := fun v => put_i (o := .un) (M := M) (τ := [x, y, .lst true (iL M), pt b, w, f, u, .int (t : Int), .int a, .int (j : Int), s10]) (i := 2) (v := v) hk rfl
  rw [e] at ix
  simp only [e] at pu
  have en : cf M (t + j) + (-a) * cf b j = cf M (t + j) - a * cf b j := by rw [Int.neg_mul]; omega
  rw [en]
  simp [oqB, nk0, fnD, sSto, onE, Rz.bind, nm, cst, bin, uno, intD, Hdl.get, addD, subD, iop, iopC, modD, modC, mulD, m, ix, ib, pu]
theorem oq_in {b M : List Int} {x y w f u s9 s10 : D} {t : Nat} {a : Int} (hb : Res b) (ha : isR a) (hl : t + b.length ≤ M.length) : ∃ s9', forL (gN 9) oqB ((List.range b.length).map fun (k : Nat) => D.int (k : Int)) [x, y, .lst true (iL M), pt b, w, f, u, .int (t : Int), .int a, s9, s10] = .nx [x, y, .lst true (iL (adL M t (-a) b)), pt b, w, f, u, .int (t : Int), .int a, s9', s10] := by
  obtain ⟨τ', e, s9', h⟩ := in_loop (B := oqB) (g := gN 9) (ds := (List.range b.length).map fun (k : Nat) => D.int (k : Int)) (T := fun M τ => ∃ s9', τ = [x, y, .lst true (iL M), pt b, w, f, u, .int (t : Int), .int a, s9', s10]) (r := M) (b := b) (a := t) (x := -a) hl (by simp) ⟨s9, rfl⟩ fun j d M' τ hd hj hM hT => by
    obtain ⟨s9', rfl⟩ := hT
    obtain ⟨_, rfl⟩ := range_i hd
    exact ⟨[x, y, .lst true (iL M'), pt b, w, f, u, .int (t : Int), .int a, .int (j : Int), s10], _, by simp [gN], oq_body ha hb hj (by omega), _, rfl⟩
  exact ⟨s9', by rw [e, h]⟩
theorem oq_loop {p q b r : List Int} {iv : Int} {s6 s7 s8 s9 : D} (hb : Res b) (hr : Res r) (hi : isR iv) (hb0 : b ≠ []) (hl : r.length ≤ 1000) (hbl : b.length ≤ 1000) : ∃ s6' s7' s8' s9', forL (gN 6) (sq (sSet 7 (bin subD (bin subD (uno lenD (nm 2)) (uno lenD (nm 3))) (nm 6))) (sq (sSet 8 (bin modD (uno intD (bin mulD (bin ixD (nm 2) (bin subD (bin addD (nm 7) (uno lenD (nm 3))) (cst (.int 1)))) (nm 4))) (cst (.int 2147483647)))) (sq (sExpr (mtD appL 5 (acons (vl 8) (anil)))) (sFor (rgS1 (uno lenD (nm 3))) (gN 9) (sSto 2 (bin addD (nm 7) (nm 9)) (bin modD (uno intD (bin subD (bin ixD (nm 2) (bin addD (nm 7) (nm 9))) (bin mulD (nm 8) (bin ixD (nm 3) (nm 9))))) (cst (.int 2147483647)))))))) ((List.range (r.length + 1 - b.length)).map fun (k : Nat) => D.int (k : Int)) [pt p, pt q, .lst true (iL r), pt b, .int iv, .lst true [], s6, s7, s8, s9, .un] =
    .nx [pt p, pt q, .lst true (iL (dvR b iv r (r.length + 1 - b.length))), pt b, .int iv, .lst true (iL ((List.range (r.length + 1 - b.length)).map (dvX b iv r))), s6', s7', s8', s9', .un] := by
  have b1 := List.length_pos_iff.mpr hb0
  have lb := iL_len b
  obtain ⟨N, hN⟩ : ∃ N, N = r.length + 1 - b.length := ⟨_, rfl⟩
  rw [← hN]
  obtain ⟨τ', e, s6', s7', s8', s9', h⟩ := forL_inv (g := gN 6) (p := (sq (sSet 7 (bin subD (bin subD (uno lenD (nm 2)) (uno lenD (nm 3))) (nm 6))) (sq (sSet 8 (bin modD (uno intD (bin mulD (bin ixD (nm 2) (bin subD (bin addD (nm 7) (uno lenD (nm 3))) (cst (.int 1)))) (nm 4))) (cst (.int 2147483647)))) (sq (sExpr (mtD appL 5 (acons (vl 8) (anil)))) (sFor (rgS1 (uno lenD (nm 3))) (gN 9) (sSto 2 (bin addD (nm 7) (nm 9)) (bin modD (uno intD (bin subD (bin ixD (nm 2) (bin addD (nm 7) (nm 9))) (bin mulD (nm 8) (bin ixD (nm 3) (nm 9))))) (cst (.int 2147483647))))))))) (ds := (List.range N).map fun (k : Nat) => D.int (k : Int)) (τ := [pt p, pt q, .lst true (iL r), pt b, .int iv, .lst true [], s6, s7, s8, s9, .un])
    (fun s τ => ∃ s6' s7' s8' s9', τ = [pt p, pt q, .lst true (iL (dvR b iv r s)), pt b, .int iv, .lst true (iL ((List.range s).map (dvX b iv r))), s6', s7', s8', s9', .un]) (fun s d τ hd hI => by
      obtain ⟨s6', s7', s8', s9', rfl⟩ := hI
      obtain ⟨hs, rfl⟩ := range_i hd
      have ea : (r.length : Int) - (b.length : Int) - (s : Int) = ((N - s - 1 : Nat) : Int) := by omega
      have lR := dvR_len b iv r s
      have lRi : (iL (dvR b iv r s)).length = r.length := by rw [iL_len, lR]
      have rR := dvR_res (b := b) (iv := iv) hr s
      have hix : N - s - 1 + b.length - 1 < (dvR b iv r s).length := by rw [lR]; omega
      have ix := ixl_i (o := true) hix
      have ei : ((N - s - 1 + b.length - 1 : Nat) : Int) = ((N - s - 1 : Nat) : Int) + (b.length : Int) - 1 := by omega
      rw [ei] at ix
      have ex : cf (dvR b iv r s) (N - s - 1 + b.length - 1) * iv % 2147483647 = dvX b iv r s := by
        unfold dvX
        rw [← hN]
      have m := mulR (rR.cf (N - s - 1 + b.length - 1)) hi
      have ap : iL ((List.range (s + 1)).map (dvX b iv r)) = iL ((List.range s).map (dvX b iv r)) ++ [.int (dvX b iv r s)] := by
        rw [List.range_succ, List.map_append, iL_app]
        rfl
      have la : (iL ((List.range s).map (dvX b iv r))).length < 100000 := by rw [iL_len]; simp; omega
      obtain ⟨s9'', ein⟩ := oq_in (x := pt p) (y := pt q) (w := .int iv) (f := .lst true (iL ((List.range (s + 1)).map (dvX b iv r)))) (u := .int (s : Int)) (M := dvR b iv r s) (s9 := s9') (s10 := .un) (t := N - s - 1) (a := dvX b iv r s) hb (dvX_res _ _ _ _) (by rw [lR]; omega)
      have est : adL (dvR b iv r s) (N - s - 1) (-(dvX b iv r s)) b = dvR b iv r (s + 1) := by rw [dvR_succ, ← hN]
      rw [est] at ein
      refine ⟨_, [pt p, pt q, .lst true (iL (dvR b iv r (s + 1))), pt b, .int iv, .lst true (iL ((List.range (s + 1)).map (dvX b iv r))), .int (s : Int), .int ((N - s - 1 : Nat) : Int), .int (dvX b iv r s), s9'', .un], rfl, .inl ?_, _, _, _, _, rfl⟩
      show (sq (sSet 7 (bin subD (bin subD (uno lenD (nm 2)) (uno lenD (nm 3))) (nm 6))) (sq (sSet 8 (bin modD (uno intD (bin mulD (bin ixD (nm 2) (bin subD (bin addD (nm 7) (uno lenD (nm 3))) (cst (.int 1)))) (nm 4))) (cst (.int 2147483647)))) (sq (sExpr (mtD appL 5 (acons (vl 8) (anil)))) (sFor (rgS1 (uno lenD (nm 3))) (gN 9) (sSto 2 (bin addD (nm 7) (nm 9)) (bin modD (uno intD (bin subD (bin ixD (nm 2) (bin addD (nm 7) (nm 9))) (bin mulD (nm 8) (bin ixD (nm 3) (nm 9))))) (cst (.int 2147483647)))))))) [pt p, pt q, .lst true (iL (dvR b iv r s)), pt b, .int iv, .lst true (iL ((List.range s).map (dvX b iv r))), .int (s : Int), s7', s8', s9', .un] = _
      generalize hA : ((N - s - 1 : Nat) : Int) = A at *
      refine (sq_nx (τ1 := [pt p, pt q, .lst true (iL (dvR b iv r s)), pt b, .int iv, .lst true (iL ((List.range s).map (dvX b iv r))), .int (s : Int), .int A, s8', s9', .un]) ?_).trans ?_
      · simp [nk0, fnD, outD, sq, sRet, sIf, sNil, sExpr, sSet, sPar, sPar3, sAsg, sSto, putAt, onE, onT, andV, orV, notV, andT, orT, notT, ifE, tst, Rz.bind, nm, vl, cst, bin, uno, chn, dsp, acons, anil, callD, okA, lendD, wbD, runL, mtD, appL, extL, popL, Hdl.get, valsOf, D.nks, D.nk, D.pl, D.pls, D.frz, D.frzs, nkU, isiD, isiB, iop, iopC, ltD, leD, gtD, geD, addD, subD, mulD, modD, fdivD, negD, modC, isND, notND, isNB, gN, gT, gU, gC, gNo, lamD, frzAll, cloOf, onlyD, fz, astar, sRaise, lenD, lb, lRi, ea]
      refine (sq_nx (τ1 := [pt p, pt q, .lst true (iL (dvR b iv r s)), pt b, .int iv, .lst true (iL ((List.range s).map (dvX b iv r))), .int (s : Int), .int A, .int (dvX b iv r s), s9', .un]) ?_).trans ?_
      · simp [nk0, fnD, outD, sq, sRet, sIf, sNil, sExpr, sSet, sPar, sPar3, sAsg, sSto, putAt, onE, onT, andV, orV, notV, andT, orT, notT, ifE, tst, Rz.bind, nm, vl, cst, bin, uno, chn, dsp, acons, anil, callD, okA, lendD, wbD, runL, mtD, appL, extL, popL, Hdl.get, valsOf, D.nks, D.nk, D.pl, D.pls, D.frz, D.frzs, nkU, isiD, isiB, iop, iopC, ltD, leD, gtD, geD, addD, subD, mulD, modD, fdivD, negD, modC, isND, notND, isNB, gN, gT, gU, gC, gNo, lamD, frzAll, cloOf, onlyD, fz, astar, sRaise, intD, lenD, lb, ix, m, ex]
      refine (sq_nx (τ1 := [pt p, pt q, .lst true (iL (dvR b iv r s)), pt b, .int iv, .lst true (iL ((List.range (s + 1)).map (dvX b iv r))), .int (s : Int), .int A, .int (dvX b iv r s), s9', .un]) ?_).trans ?_
      · rw [ap]
        generalize iL ((List.range s).map (dvX b iv r)) = L at *
        simp [nk0, fnD, outD, sq, sRet, sIf, sNil, sExpr, sSet, sPar, sPar3, sAsg, sSto, putAt, onE, onT, andV, orV, notV, andT, orT, notT, ifE, tst, Rz.bind, nm, vl, cst, bin, uno, chn, dsp, acons, anil, callD, okA, lendD, wbD, runL, mtD, appL, extL, popL, Hdl.get, valsOf, D.nks, D.nk, D.pl, D.pls, D.frz, D.frzs, nkU, isiD, isiB, iop, iopC, ltD, leD, gtD, geD, addD, subD, mulD, modD, fdivD, negD, modC, isND, notND, isNB, ixD, plO, gN, gT, gU, gC, gNo, lamD, frzAll, cloOf, onlyD, fz, astar, sRaise, la]
      exact (for_of (ds := (List.range b.length).map fun (k : Nat) => D.int (k : Int)) (τ1 := [pt p, pt q, .lst true (iL (dvR b iv r s)), pt b, .int iv, .lst true (iL ((List.range (s + 1)).map (dvX b iv r))), .int (s : Int), .int A, .int (dvX b iv r s), s9', .un]) (rgS1_of (h := .val (.int (b.length : Int))) (by simp [nk0, fnD, outD, sq, sRet, sIf, sNil, sExpr, sSet, sPar, sPar3, sAsg, sSto, putAt, onE, onT, andV, orV, notV, andT, orT, notT, ifE, tst, Rz.bind, nm, vl, cst, bin, uno, chn, dsp, acons, anil, callD, okA, lendD, wbD, runL, mtD, appL, extL, popL, Hdl.get, valsOf, D.nks, D.nk, D.pl, D.pls, D.frz, D.frzs, nkU, isiD, isiB, iop, iopC, ltD, leD, gtD, geD, addD, subD, mulD, modD, fdivD, negD, modC, isND, notND, isNB, ixD, plO, gN, gT, gU, gC, gNo, lamD, frzAll, cloOf, onlyD, fz, astar, sRaise, lenD, lb]) rfl (by omega))).trans ein) ⟨s6, s7, s8, s9, rfl⟩
  rw [List.length_map, List.length_range] at h
  exact ⟨s6', s7', s8', s9', by rw [e, h]⟩
/-- .. a tuple, or None -/
def quT (p q : List Int) (iv : Int) : D := match quL p q iv with
  | some x => pt x
  | none => .non
theorem quT_gd (p q : List Int) (iv : Int) : gd (quT p q iv) = true := by
  unfold quT
  split
  · exact pt_gd _
  · rfl
theorem nz_list (R : List Int) : ((iL R).filter fun d => match d with
    | .int i => !decide (i = 0)
    | _ => false).map id = iL (R.filter fun i => !decide (i = 0)) := by
  rw [List.map_id]
  unfold iL
  rw [List.filter_map]
  rfl
theorem nz_nil (R : List Int) : R.filter (fun i => !decide (i = 0)) = [] ↔ cuL R = [] := by
  rw [cuL_nil, List.filter_eq_nil_iff]
  simp
theorem own_nz {x y w4 w5 w6 w7 w8 w9 : D} {b R : List Int} (hl : R.length ≤ 1000) : lcE (seqS (vl 2)) (gN 10) (tst (bin neD (nm 10) (cst (.int 0)))) (vl 10) [10] [x, y, .lst true (iL R), pt b, w4, w5, w6, w7, w8, w9, .un] =
    .ok (.val (.lst true (iL (R.filter fun i => !decide (i = 0))))) [x, y, .lst false (iL R), pt b, w4, w5, w6, w7, w8, w9, .un] := by
  have fR := iL_frz R
  have pR := iL_pl R
  have hs : seqS (vl 2) [x, y, .lst true (iL R), pt b, w4, w5, w6, w7, w8, w9, .un] = .ok (iL R) [x, y, .lst false (iL R), pt b, w4, w5, w6, w7, w8, w9, .un] := by
    simp [seqS, seqOf, nk0, fnD, outD, sq, sRet, sIf, sNil, sExpr, sSet, sPar, sPar3, sAsg, sSto, putAt, onE, onT, andV, orV, notV, andT, orT, notT, ifE, tst, Rz.bind, nm, vl, cst, bin, uno, chn, dsp, acons, anil, callD, okA, lendD, wbD, runL, mtD, appL, extL, popL, Hdl.get, valsOf, D.nks, D.nk, D.pl, D.pls, D.frz, D.frzs, nkU, isiD, isiB, iop, iopC, ltD, leD, gtD, geD, addD, subD, mulD, modD, fdivD, negD, modC, isND, notND, isNB, ixD, plO, gN, gT, gU, gC, gNo, lamD, frzAll, cloOf, onlyD, fz, astar, sRaise, fR, pR]
  rw [lcE_map (fun d => match d with
    | .int i => !decide (i = 0)
    | _ => false) id hs (by rw [iL_len]; omega) fun d hd => ?_]
  · exact congrArg (fun L => Rz.ok (Hdl.val (D.lst true L)) [x, y, .lst false (iL R), pt b, w4, w5, w6, w7, w8, w9, .un]) (nz_list R)
  · obtain ⟨i, _, rfl⟩ := List.mem_map.mp hd
    refine ⟨[x, y, .lst false (iL R), pt b, w4, w5, w6, w7, w8, w9, .int i], by simp [gN, wipeD], ?_, fun _ => by simp [nk0, fnD, outD, sq, sRet, sIf, sNil, sExpr, sSet, sPar, sPar3, sAsg, sSto, putAt, onE, onT, andV, orV, notV, andT, orT, notT, ifE, tst, Rz.bind, nm, vl, cst, bin, uno, chn, dsp, acons, anil, callD, okA, lendD, wbD, runL, mtD, appL, extL, popL, Hdl.get, valsOf, D.nks, D.nk, D.pl, D.pls, D.frz, D.frzs, nkU, isiD, isiB, iop, iopC, ltD, leD, gtD, geD, addD, subD, mulD, modD, fdivD, negD, modC, isND, notND, isNB, ixD, plO, gN, gT, gU, gC, gNo, lamD, frzAll, cloOf, onlyD, fz, astar, sRaise], by simp [wipeD]⟩
    simp [nk0, fnD, outD, sq, sRet, sIf, sNil, sExpr, sSet, sPar, sPar3, sAsg, sSto, putAt, onE, onT, andV, orV, notV, andT, orT, notT, ifE, tst, Rz.bind, nm, vl, cst, bin, uno, chn, dsp, acons, anil, callD, okA, lendD, wbD, runL, mtD, appL, extL, popL, Hdl.get, valsOf, D.nks, D.nk, D.pl, D.pls, D.frz, D.frzs, nkU, isiD, isiB, iop, iopC, ltD, leD, gtD, geD, addD, subD, mulD, modD, fdivD, negD, modC, isND, notND, isNB, ixD, plO, gN, gT, gU, gC, gNo, lamD, frzAll, cloOf, onlyD, fz, astar, sRaise, neD, eqB]
theorem o_own_quotient {p q : List Int} {iv : Int} {g_law_c2_cut g_law_c2_power : List D → Rt} (hp : Res p) (hq : Res q) (lp : p.length ≤ 100) (lq : q.length ≤ 100) (h0 : cuL q ≠ []) (hi : isR iv) (c1 : g_law_c2_power [.int (cf (cuL q) ((cuL q).length - 1)), .int 2147483645] = .ok (.int iv) [.int (cf (cuL q) ((cuL q).length - 1)), .int 2147483645])
    (c2 : g_law_c2_cut [pt p] = .ok (pt (cuL p)) [pt p]) (c3 : g_law_c2_cut [pt q] = .ok (pt (cuL q)) [pt q]) :
    nk0 (fnD 2 11 fx_law_c2_quotient (B_law_c2_quotient g_law_c2_cut g_law_c2_power)) [pt p, pt q] = .ok (quT p q iv) [pt p, pt q] := by
  have np := iL_nk p
  have nq := iL_nk q
  have pp := iL_pl p
  have pq := iL_pl q
  have lr : (cuL p).length ≤ 100 := Nat.le_trans (cuL_le p) lp
  have lc : (cuL q).length ≤ 100 := Nat.le_trans (cuL_le q) lq
  obtain ⟨s6, s7, s8, s9, e⟩ := oq_loop (p := p) (q := q) (s6 := .un) (s7 := .un) (s8 := .un) (s9 := .un) (cuL_res hq) (cuL_res hp) hi h0 (r := cuL p) (by omega) (by omega)
  have ixl := ix_last h0 (pt (cuL q)) (.inl rfl)
  have l1 := iL_len (cuL p)
  have l2 := iL_len (cuL q)
  have pc := iL_pl (cuL p)
  obtain ⟨N, hN⟩ : ∃ N, N = (cuL p).length + 1 - (cuL q).length := ⟨_, rfl⟩
  have hR : (dvR (cuL q) iv (cuL p) N).length ≤ 1000 := by rw [dvR_len]; omega
  rw [← hN] at e
  obtain ⟨R, eR⟩ : ∃ R, R = dvR (cuL q) iv (cuL p) N := ⟨_, rfl⟩
  obtain ⟨Q, eQ⟩ : ∃ Q, Q = (List.range N).map (dvX (cuL q) iv (cuL p)) := ⟨_, rfl⟩
  have er : quT p q iv = if cuL R = [] then pt Q.reverse else .non := by
    unfold quT quL
    rw [← hN, ← eR]
    have eq : dvQ (cuL q) iv (cuL p) = Q.reverse := by
      unfold dvQ
      rw [← hN, ← eQ]
    split <;> rename_i h
    · split at h
      · rename_i hc
        rw [if_pos hc]
        cases h
        rw [eq]
      · cases h
    · split at h
      · cases h
      · rename_i hc
        rw [if_neg hc]
  rw [← eR, ← eQ] at e
  rw [← eR] at hR
  have ch : B_law_c2_quotient g_law_c2_cut g_law_c2_power [pt p, pt q, .un, .un, .un, .un, .un, .un, .un, .un, .un] = (sRet (ifE (tst (bin eqD (lcE (seqS (vl 2)) (gN 10) (tst (bin neD (nm 10) (cst (.int 0)))) (vl 10) [10]) (dsp (.lst true) (anil)))) (uno tupleD (uno revD (nm 5))) (cst .non))) [pt p, pt q, .lst true (iL R), pt (cuL q), .int iv, .lst true (iL Q), s6, s7, s8, s9, .un] := by
    unfold B_law_c2_quotient
    refine (sq_nx (τ1 := [pt p, pt q, .lst true (iL (cuL p)), pt (cuL q), .un, .un, .un, .un, .un, .un, .un]) ?_).trans ?_
    · simp [nk0, fnD, outD, sq, sRet, sIf, sNil, sExpr, sSet, sPar, sPar3, sAsg, sSto, putAt, onE, onT, andV, orV, notV, andT, orT, notT, ifE, tst, Rz.bind, nm, vl, cst, bin, uno, chn, dsp, acons, anil, callD, okA, lendD, wbD, runL, mtD, appL, extL, popL, Hdl.get, valsOf, D.nks, D.nk, D.pl, D.pls, D.frz, D.frzs, nkU, isiD, isiB, iop, iopC, ltD, leD, gtD, geD, addD, subD, mulD, modD, fdivD, negD, modC, isND, notND, isNB, ixD, plO, gN, gT, gU, gC, gNo, lamD, frzAll, cloOf, onlyD, fz, astar, sRaise, c2, c3, pp, pq, listD, pc]
    refine (sq_nx (τ1 := [pt p, pt q, .lst true (iL (cuL p)), pt (cuL q), .int iv, .lst true [], .un, .un, .un, .un, .un]) ?_).trans ?_
    · simp [nk0, fnD, outD, sq, sRet, sIf, sNil, sExpr, sSet, sPar, sPar3, sAsg, sSto, putAt, onE, onT, andV, orV, notV, andT, orT, notT, ifE, tst, Rz.bind, nm, vl, cst, bin, uno, chn, dsp, acons, anil, callD, okA, lendD, wbD, runL, mtD, appL, extL, popL, Hdl.get, valsOf, D.nks, D.nk, D.pl, D.pls, D.frz, D.frzs, nkU, isiD, isiB, iop, iopC, ltD, leD, gtD, geD, addD, subD, mulD, modD, fdivD, negD, modC, isND, notND, isNB, gN, gT, gU, gC, gNo, lamD, frzAll, cloOf, onlyD, fz, astar, sRaise, ixl, c1]
    refine sq_nx (τ1 := [pt p, pt q, .lst true (iL R), pt (cuL q), .int iv, .lst true (iL Q), s6, s7, s8, s9, .un]) ?_
    refine (for_of (ds := (List.range N).map fun (k : Nat) => D.int (k : Int)) (τ1 := [pt p, pt q, .lst true (iL (cuL p)), pt (cuL q), .int iv, .lst true [], .un, .un, .un, .un, .un]) ?_).trans e
    have i1 : ∀ τ, intOf (.val (.int (((cuL p).length : Int) - ((cuL q).length : Int) + 1))) τ = some (((cuL p).length : Int) - ((cuL q).length : Int) + 1) := fun τ => intOf_val (by omega)
    have en : (((cuL p).length : Int) - ((cuL q).length : Int) + 1).toNat = N := by omega
    have e9 := rgD_eq N
    simp [rgS1, nk0, fnD, outD, sq, sRet, sIf, sNil, sExpr, sSet, sPar, sPar3, sAsg, sSto, putAt, onE, onT, andV, orV, notV, andT, orT, notT, ifE, tst, Rz.bind, nm, vl, cst, bin, uno, chn, dsp, acons, anil, callD, okA, lendD, wbD, runL, mtD, appL, extL, popL, Hdl.get, valsOf, D.nks, D.nk, D.pl, D.pls, D.frz, D.frzs, nkU, isiD, isiB, iop, iopC, ltD, leD, gtD, geD, addD, subD, mulD, modD, fdivD, negD, modC, isND, notND, isNB, ixD, plO, gN, gT, gU, gC, gNo, lamD, frzAll, cloOf, onlyD, fz, astar, sRaise, lenD, l1, l2, i1, en, e9]
  have hb : ∃ τ, B_law_c2_quotient g_law_c2_cut g_law_c2_power [pt p, pt q, .un, .un, .un, .un, .un, .un, .un, .un, .un] = .rt (quT p q iv) (pt p :: pt q :: τ) := by
    rw [ch, er]
    have nz := own_nz (x := pt p) (y := pt q) (w4 := .int iv) (w5 := .lst true (iL Q)) (w6 := s6) (w7 := s7) (w8 := s8) (w9 := s9) (b := cuL q) (R := R) hR
    have e1 := eq_lt true (R.filter fun i => !decide (i = 0))
    have nn := nz_nil R
    have pQ := iL_pl Q
    have rQ : (iL Q).reverse = iL Q.reverse := by unfold iL; rw [List.map_reverse]
    have pQ2 := iL_pl Q.reverse
    refine ⟨[.lst false (iL R), pt (cuL q), .int iv, .lst true (iL Q), s6, s7, s8, s9, .un], ?_⟩
    generalize lcE (seqS (vl 2)) (gN 10) (tst (bin neD (nm 10) (cst (.int 0)))) (vl 10) [10] = F1 at *
    by_cases hc : cuL R = []
    · rw [decide_eq_true (nn.mpr hc)] at e1
      rw [if_pos hc]
      simp [nk0, fnD, outD, sq, ret_eq, retS, sIf, sNil, sExpr, sSet, sPar, sPar3, sAsg, sSto, putAt, onE, onT, andV, orV, notV, andT, orT, notT, ifE, tst, Rz.bind, nm_eq, vl_eq, cst, bin, uno, chn, dsp, acons, anil, callD, okA_nil, okA_val, okA_slot, lendD, wbD, runL, mtD, appL, extL, popL, Hdl.get, valsOf, D.nks, D.nk, D.pl, D.pls, D.frz, D.frzs, isiD, isiB, iop, iopC, ltD, leD, gtD, geD, addD, subD, mulD, modD, fdivD, negD, modC, isND, notND, isNB, gN, gT, gU, gC, gNo, lamD, frzAll_nil, frzAll_cons, cloOf, onlyD, fz, astar, sRaise, nz, e1, revD, tupleD, pQ, rQ, pQ2]
    · rw [decide_eq_false fun z => hc (nn.mp z)] at e1
      rw [if_neg hc]
      simp [nk0, fnD, outD, sq, ret_eq, retS, sIf, sNil, sExpr, sSet, sPar, sPar3, sAsg, sSto, putAt, onE, onT, andV, orV, notV, andT, orT, notT, ifE, tst, Rz.bind, nm_eq, vl_eq, cst, bin, uno, chn, dsp, acons, anil, callD, okA_nil, okA_val, okA_slot, lendD, wbD, runL, mtD, appL, extL, popL, Hdl.get, valsOf, D.nks, D.nk, D.pl, D.pls, D.frz, D.frzs, isiD, isiB, iop, iopC, ltD, leD, gtD, geD, addD, subD, mulD, modD, fdivD, negD, modC, isND, notND, isNB, gN, gT, gU, gC, gNo, lamD, frzAll_nil, frzAll_cons, cloOf, onlyD, fz, astar, sRaise, nz, e1]
  obtain ⟨τ, hb⟩ := hb
  exact (nk0_ok (d := quT p q iv) rfl (by simp [D.nks, D.nk, np, nq]) hb (gd_nk (quT_gd p q iv)) (by simp [outD, fx_law_c2_quotient, nkU, D.nk, np, nq])).trans (by simp [outD, fx_law_c2_quotient])
theorem own_quotient {p q : List Int} {iv : Int} (hp : Res p) (hq : Res q) (lp : p.length ≤ 100) (lq : q.length ≤ 100) (h0 : cuL q ≠ []) (hi : isR iv) (c1 : d_law_c2_power [.int (cf (cuL q) ((cuL q).length - 1)), .int 2147483645] = .ok (.int iv) [.int (cf (cuL q) ((cuL q).length - 1)), .int 2147483645]) : d_law_c2_quotient [pt p, pt q] = .ok (quT p q iv) [pt p, pt q] :=
  o_own_quotient (g_law_c2_cut := d_law_c2_cut) (g_law_c2_power := d_law_c2_power) hp hq lp lq h0 hi c1 (own_cut (by omega)) (own_cut (by omega))
end Law
end

section
set_option Elab.async false
set_option linter.all false
set_option maxRecDepth 100000
set_option maxHeartbeats 4000000
namespace Law
open Y Num
/-! ### the program's defs, of any thing -/
section
variable {x y : D} {p q : List Int}
theorem isRes_of {i : Int} (h : isR i) : isRes (.int i) = true := isR_res.mpr h
theorem value_bad (h : gd x = true) (hy : gd y = true) (hf : faultF x ≠ .non) : d_value [x, y] = .ex "BadPoly" (faultF x) := by
  have e := gd_ok h
  have ey := gd_ok hy
  have ef := gd_ok (faultF_gd x)
  have o : ∀ g1 g2 g3 : List D → Rt, g2 [x] = .ex "BadPoly" (faultF x) → nk0 (fnD 2 2 fx_value (B_value g1 g2 g3)) [x, y] = .ex "BadPoly" (faultF x) := fun g1 g2 g3 c1 => by
    simp [B_value, fx_value, nk0, fnD, outD, sq, ret_eq, retS, sIf, sNil, sExpr, sSet, sPar, sPar3, sAsg, sSto, putAt, onE, onT, andV, orV, notV, andT, orT, notT, ifE, tst, Rz.bind, nm_eq, vl_eq, cst, bin, uno, chn, dsp, acons, anil, callD, okA_nil, okA_val, okA_slot, lendD, wbD, runL, mtD, appL, extL, popL, Hdl.get, valsOf, D.nks, D.nk, D.pl, D.pls, D.frz, D.frzs, isiD, isiB, iop, iopC, ltD, leD, gtD, geD, addD, subD, mulD, modD, fdivD, negD, modC, isND, notND, isNB, gN, gT, gU, gC, gNo, lamD, frzAll_nil, frzAll_cons, cloOf, onlyD, fz, astar, sRaise, c1, e.un, e.pl, e.nk, ey.nk, ef.nk]
  exact o d_is_residue d_made_poly d_value_at (made_ex h hf)
theorem value_res (hp : Res p) (hl : p.length ≤ 40) (hy : gd y = true) (hf : isRes y = false) : d_value [pt p, y] = .ex "BadResidue" y := by
  have ey := gd_ok hy
  have np := iL_nk p
  have pp := iL_pl p
  have c2 := is_residue_any hy
  rw [hf] at c2
  have o : ∀ g1 g2 g3 : List D → Rt, g2 [pt p] = .ok (pt p) [.un] → g1 [y] = .ok (.bl false) [y] → nk0 (fnD 2 2 fx_value (B_value g1 g2 g3)) [pt p, y] = .ex "BadResidue" y := fun g1 g2 g3 c1 c2 => by
    simp [B_value, fx_value, nk0, fnD, outD, sq, ret_eq, retS, sIf, sNil, sExpr, sSet, sPar, sPar3, sAsg, sSto, putAt, onE, onT, andV, orV, notV, andT, orT, notT, ifE, tst, Rz.bind, nm_eq, vl_eq, cst, bin, uno, chn, dsp, acons, anil, callD, okA_nil, okA_val, okA_slot, lendD, wbD, runL, mtD, appL, extL, popL, Hdl.get, valsOf, D.nks, D.nk, D.pl, D.pls, D.frz, D.frzs, isiD, isiB, iop, iopC, ltD, leD, gtD, geD, addD, subD, mulD, modD, fdivD, negD, modC, isND, notND, isNB, gN, gT, gU, gC, gNo, lamD, frzAll_nil, frzAll_cons, cloOf, onlyD, fz, astar, sRaise, c1, c2, np, pp, ey.un, ey.pl, ey.nk, ey.frz]
  exact o d_is_residue d_made_poly d_value_at (made_ok (pt_gd p) (fault_pt hp hl)) c2
theorem value_ok {a : Int} (hp : Res p) (hl : p.length ≤ 40) (ha : isR a) : d_value [pt p, .int a] = .ok (.int (vaL p a)) [pt p, .int a] := by
  have np := iL_nk p
  have pp := iL_pl p
  have c2 := is_residue_any (x := .int a) rfl
  rw [isRes_of ha] at c2
  have o : ∀ g1 g2 g3 : List D → Rt, g2 [pt p] = .ok (pt p) [.un] → g1 [.int a] = .ok (.bl true) [.int a] → g3 [pt p, .int a] = .ok (.int (vaL p a)) [pt p, .int a] → nk0 (fnD 2 2 fx_value (B_value g1 g2 g3)) [pt p, .int a] = .ok (.int (vaL p a)) [pt p, .int a] := fun g1 g2 g3 c1 c2 c3 => by
    simp [B_value, fx_value, nk0, fnD, outD, sq, ret_eq, retS, sIf, sNil, sExpr, sSet, sPar, sPar3, sAsg, sSto, putAt, onE, onT, andV, orV, notV, andT, orT, notT, ifE, tst, Rz.bind, nm_eq, vl_eq, cst, bin, uno, chn, dsp, acons, anil, callD, okA_nil, okA_val, okA_slot, lendD, wbD, runL, mtD, appL, extL, popL, Hdl.get, valsOf, D.nks, D.nk, D.pl, D.pls, D.frz, D.frzs, isiD, isiB, iop, iopC, ltD, leD, gtD, geD, addD, subD, mulD, modD, fdivD, negD, modC, isND, notND, isNB, gN, gT, gU, gC, gNo, lamD, frzAll_nil, frzAll_cons, cloOf, onlyD, fz, astar, sRaise, c1, c2, c3, np, pp]
  exact o d_is_residue d_made_poly d_value_at (made_ok (pt_gd p) (fault_pt hp hl)) c2 (value_at_ok hp ha)
theorem times_bad (h : gd x = true) (hy : gd y = true) (hf : faultF x ≠ .non) : d_times [x, y] = .ex "BadPoly" (faultF x) := by
  have e := gd_ok h
  have ey := gd_ok hy
  have ef := gd_ok (faultF_gd x)
  have o : ∀ g1 g2 : List D → Rt, g1 [x] = .ex "BadPoly" (faultF x) → nk0 (fnD 2 2 fx_times (B_times g1 g2)) [x, y] = .ex "BadPoly" (faultF x) := fun g1 g2 c1 => by
    simp [B_times, fx_times, nk0, fnD, outD, sq, ret_eq, retS, sIf, sNil, sExpr, sSet, sPar, sPar3, sAsg, sSto, putAt, onE, onT, andV, orV, notV, andT, orT, notT, ifE, tst, Rz.bind, nm_eq, vl_eq, cst, bin, uno, chn, dsp, acons, anil, callD, okA_nil, okA_val, okA_slot, lendD, wbD, runL, mtD, appL, extL, popL, Hdl.get, valsOf, D.nks, D.nk, D.pl, D.pls, D.frz, D.frzs, isiD, isiB, iop, iopC, ltD, leD, gtD, geD, addD, subD, mulD, modD, fdivD, negD, modC, isND, notND, isNB, gN, gT, gU, gC, gNo, lamD, frzAll_nil, frzAll_cons, cloOf, onlyD, fz, astar, sRaise, c1, e.un, e.pl, e.nk, ey.nk, ef.nk]
  exact o d_made_poly d_product_of (made_ex h hf)
theorem times_bad2 (hp : Res p) (hl : p.length ≤ 40) (hy : gd y = true) (hf : faultF y ≠ .non) : d_times [pt p, y] = .ex "BadPoly" (faultF y) := by
  have ey := gd_ok hy
  have np := iL_nk p
  have pp := iL_pl p
  have ef := gd_ok (faultF_gd y)
  have o : ∀ g1 g2 : List D → Rt, g1 [pt p] = .ok (pt p) [.un] → g1 [y] = .ex "BadPoly" (faultF y) → nk0 (fnD 2 2 fx_times (B_times g1 g2)) [pt p, y] = .ex "BadPoly" (faultF y) := fun g1 g2 c1 c2 => by
    simp [B_times, fx_times, nk0, fnD, outD, sq, ret_eq, retS, sIf, sNil, sExpr, sSet, sPar, sPar3, sAsg, sSto, putAt, onE, onT, andV, orV, notV, andT, orT, notT, ifE, tst, Rz.bind, nm_eq, vl_eq, cst, bin, uno, chn, dsp, acons, anil, callD, okA_nil, okA_val, okA_slot, lendD, wbD, runL, mtD, appL, extL, popL, Hdl.get, valsOf, D.nks, D.nk, D.pl, D.pls, D.frz, D.frzs, isiD, isiB, iop, iopC, ltD, leD, gtD, geD, addD, subD, mulD, modD, fdivD, negD, modC, isND, notND, isNB, gN, gT, gU, gC, gNo, lamD, frzAll_nil, frzAll_cons, cloOf, onlyD, fz, astar, sRaise, c1, c2, np, pp, ey.un, ey.pl, ey.nk, ef.nk]
  exact o d_made_poly d_product_of (made_ok (pt_gd p) (fault_pt hp hl)) (made_ex hy hf)
theorem times_ok (hp : Res p) (hl : p.length ≤ 40) (hq : Res q) (hl2 : q.length ≤ 40) : d_times [pt p, pt q] = .ok (pt (prL p q)) [pt p, pt q] := by
  have np := iL_nk p
  have pp := iL_pl p
  have nq := iL_nk q
  have pq := iL_pl q
  have pr := iL_pl (prL p q)
  have nr := iL_nk (prL p q)
  have o : ∀ g1 g2 : List D → Rt, g1 [pt p] = .ok (pt p) [.un] → g1 [pt q] = .ok (pt q) [.un] → g2 [pt p, pt q] = .ok (.lst true (iL (prL p q))) [pt p, pt q] → nk0 (fnD 2 2 fx_times (B_times g1 g2)) [pt p, pt q] = .ok (pt (prL p q)) [pt p, pt q] := fun g1 g2 c1 c2 c3 => by
    simp [B_times, fx_times, nk0, fnD, outD, sq, ret_eq, retS, sIf, sNil, sExpr, sSet, sPar, sPar3, sAsg, sSto, putAt, onE, onT, andV, orV, notV, andT, orT, notT, ifE, tst, Rz.bind, nm_eq, vl_eq, cst, bin, uno, chn, dsp, acons, anil, callD, okA_nil, okA_val, okA_slot, lendD, wbD, runL, mtD, appL, extL, popL, Hdl.get, valsOf, D.nks, D.nk, D.pl, D.pls, D.frz, D.frzs, isiD, isiB, iop, iopC, ltD, leD, gtD, geD, addD, subD, mulD, modD, fdivD, negD, modC, isND, notND, isNB, gN, gT, gU, gC, gNo, lamD, frzAll_nil, frzAll_cons, cloOf, onlyD, fz, astar, sRaise, c1, c2, c3, np, pp, nq, pq, tupleD, pr, nr]
  exact o d_made_poly d_product_of (made_ok (pt_gd p) (fault_pt hp hl)) (made_ok (pt_gd q) (fault_pt hq hl2)) (product_ok hp hq (by omega) (by omega))
theorem quot_bad (h : gd x = true) (hy : gd y = true) (hf : faultF x ≠ .non) : d_quotient [x, y] = .ex "BadPoly" (faultF x) := by
  have e := gd_ok h
  have ey := gd_ok hy
  have ef := gd_ok (faultF_gd x)
  have o : ∀ g1 g2 g3 : List D → Rt, g1 [x] = .ex "BadPoly" (faultF x) → nk0 (fnD 2 3 fx_quotient (B_quotient g1 g2 g3)) [x, y] = .ex "BadPoly" (faultF x) := fun g1 g2 g3 c1 => by
    simp [B_quotient, fx_quotient, nk0, fnD, outD, sq, ret_eq, retS, sIf, sNil, sExpr, sSet, sPar, sPar3, sAsg, sSto, putAt, onE, onT, andV, orV, notV, andT, orT, notT, ifE, tst, Rz.bind, nm_eq, vl_eq, cst, bin, uno, chn, dsp, acons, anil, callD, okA_nil, okA_val, okA_slot, lendD, wbD, runL, mtD, appL, extL, popL, Hdl.get, valsOf, D.nks, D.nk, D.pl, D.pls, D.frz, D.frzs, isiD, isiB, iop, iopC, ltD, leD, gtD, geD, addD, subD, mulD, modD, fdivD, negD, modC, isND, notND, isNB, gN, gT, gU, gC, gNo, lamD, frzAll_nil, frzAll_cons, cloOf, onlyD, fz, astar, sRaise, c1, e.un, e.pl, e.nk, ey.nk, ef.nk]
  exact o d_made_poly d_quotient_of d_trimmed (made_ex h hf)
theorem quot_bad2 (hp : Res p) (hl : p.length ≤ 40) (hy : gd y = true) (hf : faultF y ≠ .non) : d_quotient [pt p, y] = .ex "BadPoly" (faultF y) := by
  have ey := gd_ok hy
  have np := iL_nk p
  have pp := iL_pl p
  have ef := gd_ok (faultF_gd y)
  have o : ∀ g1 g2 g3 : List D → Rt, g1 [pt p] = .ok (pt p) [.un] → g1 [y] = .ex "BadPoly" (faultF y) → nk0 (fnD 2 3 fx_quotient (B_quotient g1 g2 g3)) [pt p, y] = .ex "BadPoly" (faultF y) := fun g1 g2 g3 c1 c2 => by
    simp [B_quotient, fx_quotient, nk0, fnD, outD, sq, ret_eq, retS, sIf, sNil, sExpr, sSet, sPar, sPar3, sAsg, sSto, putAt, onE, onT, andV, orV, notV, andT, orT, notT, ifE, tst, Rz.bind, nm_eq, vl_eq, cst, bin, uno, chn, dsp, acons, anil, callD, okA_nil, okA_val, okA_slot, lendD, wbD, runL, mtD, appL, extL, popL, Hdl.get, valsOf, D.nks, D.nk, D.pl, D.pls, D.frz, D.frzs, isiD, isiB, iop, iopC, ltD, leD, gtD, geD, addD, subD, mulD, modD, fdivD, negD, modC, isND, notND, isNB, gN, gT, gU, gC, gNo, lamD, frzAll_nil, frzAll_cons, cloOf, onlyD, fz, astar, sRaise, c1, c2, np, pp, ey.un, ey.pl, ey.nk, ef.nk]
  exact o d_made_poly d_quotient_of d_trimmed (made_ok (pt_gd p) (fault_pt hp hl)) (made_ex hy hf)
theorem quot_zero (hp : Res p) (hl : p.length ≤ 40) (hq : Res q) (hl2 : q.length ≤ 40) (h0 : cuL q = []) : d_quotient [pt p, pt q] = .ex "Zero" (pt q) := by
  have np := iL_nk p
  have pp := iL_pl p
  have nq := iL_nk q
  have pq := iL_pl q
  have fq := iL_frz q
  have e1 := eq_lt true (cuL q)
  rw [decide_eq_true h0] at e1
  have o : ∀ g1 g2 g3 : List D → Rt, g1 [pt p] = .ok (pt p) [.un] → g1 [pt q] = .ok (pt q) [.un] → g3 [pt q] = .ok (.lst true (iL (cuL q))) [pt q] → nk0 (fnD 2 3 fx_quotient (B_quotient g1 g2 g3)) [pt p, pt q] = .ex "Zero" (pt q) := fun g1 g2 g3 c1 c2 c3 => by
    simp [B_quotient, fx_quotient, nk0, fnD, outD, sq, ret_eq, retS, sIf, sNil, sExpr, sSet, sPar, sPar3, sAsg, sSto, putAt, onE, onT, andV, orV, notV, andT, orT, notT, ifE, tst, Rz.bind, nm_eq, vl_eq, cst, bin, uno, chn, dsp, acons, anil, callD, okA_nil, okA_val, okA_slot, lendD, wbD, runL, mtD, appL, extL, popL, Hdl.get, valsOf, D.nks, D.nk, D.pl, D.pls, D.frz, D.frzs, isiD, isiB, iop, iopC, ltD, leD, gtD, geD, addD, subD, mulD, modD, fdivD, negD, modC, isND, notND, isNB, gN, gT, gU, gC, gNo, lamD, frzAll_nil, frzAll_cons, cloOf, onlyD, fz, astar, sRaise, c1, c2, c3, np, pp, nq, pq, fq, e1]
  exact o d_made_poly d_quotient_of d_trimmed (made_ok (pt_gd p) (fault_pt hp hl)) (made_ok (pt_gd q) (fault_pt hq hl2)) (trimmed_ok (.inl rfl) (by omega))
theorem quot_ok {iv : Int} (hp : Res p) (hl : p.length ≤ 40) (hq : Res q) (hl2 : q.length ≤ 40) (h0 : cuL q ≠ []) (hi : isR iv) (ci : d_inverse_of [.int (cf (cuL q) ((cuL q).length - 1))] = .ok (.int iv) [.int (cf (cuL q) ((cuL q).length - 1))]) : d_quotient [pt p, pt q] = .ok (quT p q iv) [pt p, pt q] := by
  have np := iL_nk p
  have pp := iL_pl p
  have nq := iL_nk q
  have pq := iL_pl q
  have fq := iL_frz q
  have e1 := eq_lt true (cuL q)
  rw [decide_eq_false h0] at e1
  have c4 := quotient_of_ok hp hq (by omega) (by omega) h0 hi ci
  have o : ∀ g1 g2 g3 : List D → Rt, g1 [pt p] = .ok (pt p) [.un] → g1 [pt q] = .ok (pt q) [.un] → g3 [pt q] = .ok (.lst true (iL (cuL q))) [pt q] → g2 [pt p, pt q] = .ok (quD p q iv) [pt p, pt q] → nk0 (fnD 2 3 fx_quotient (B_quotient g1 g2 g3)) [pt p, pt q] = .ok (quT p q iv) [pt p, pt q] := fun g1 g2 g3 c1 c2 c3 c4 => by
    unfold quD at c4
    unfold quT
    cases hQ : quL p q iv with
    | none =>
      rw [hQ] at c4
      simp [B_quotient, fx_quotient, nk0, fnD, outD, sq, ret_eq, retS, sIf, sNil, sExpr, sSet, sPar, sPar3, sAsg, sSto, putAt, onE, onT, andV, orV, notV, andT, orT, notT, ifE, tst, Rz.bind, nm_eq, vl_eq, cst, bin, uno, chn, dsp, acons, anil, callD, okA_nil, okA_val, okA_slot, lendD, wbD, runL, mtD, appL, extL, popL, Hdl.get, valsOf, D.nks, D.nk, D.pl, D.pls, D.frz, D.frzs, isiD, isiB, iop, iopC, ltD, leD, gtD, geD, addD, subD, mulD, modD, fdivD, negD, modC, isND, notND, isNB, gN, gT, gU, gC, gNo, lamD, frzAll_nil, frzAll_cons, cloOf, onlyD, fz, astar, sRaise, c1, c2, c3, c4, np, pp, nq, pq, fq, e1]
    | some Q =>
      rw [hQ] at c4
      have pQ := iL_pl Q
      have nQ := iL_nk Q
      simp [B_quotient, fx_quotient, nk0, fnD, outD, sq, ret_eq, retS, sIf, sNil, sExpr, sSet, sPar, sPar3, sAsg, sSto, putAt, onE, onT, andV, orV, notV, andT, orT, notT, ifE, tst, Rz.bind, nm_eq, vl_eq, cst, bin, uno, chn, dsp, acons, anil, callD, okA_nil, okA_val, okA_slot, lendD, wbD, runL, mtD, appL, extL, popL, Hdl.get, valsOf, D.nks, D.nk, D.pl, D.pls, D.frz, D.frzs, isiD, isiB, iop, iopC, ltD, leD, gtD, geD, addD, subD, mulD, modD, fdivD, negD, modC, isND, notND, isNB, gN, gT, gU, gC, gNo, lamD, frzAll_nil, frzAll_cons, cloOf, onlyD, fz, astar, sRaise, c1, c2, c3, c4, np, pp, nq, pq, fq, e1, tupleD, pQ, nQ]
  exact o d_made_poly d_quotient_of d_trimmed (made_ok (pt_gd p) (fault_pt hp hl)) (made_ok (pt_gd q) (fault_pt hq hl2)) (trimmed_ok (.inl rfl) (by omega)) c4
end
end Law
end

section
set_option Elab.async false
set_option linter.all false
set_option maxRecDepth 100000
set_option maxHeartbeats 4000000
namespace Law
open Y Num
/-! ### drawn residues, drawn polys -/
abbrev poolL (l v : Int) : List Int := [0, 1, 2, 3, 7, 2147483646, 2147483645, 1073741823, 1073741824, l, 2147483646 - l, v, v, v]
theorem o_residue {a b c a1 b1 c1 a2 b2 c2 a3 b3 c3 l u x : Int} {go gt : List D → Rt} (t1 : gt [.lst true [.int a, .int b, .int c], .int 65536] = .ok (.int l) [.lst true [.int a1, .int b1, .int c1], .int 65536])
    (t2 : gt [.lst true [.int a1, .int b1, .int c1], .int 32768] = .ok (.int u) [.lst true [.int a2, .int b2, .int c2], .int 32768]) (m : mulC l 32768 = true)
    (o1 : go [.lst true [.int a2, .int b2, .int c2], .lst false (iL (poolL l ((l * 32768 + u) % 2147483647)))] = .ok (.int x) [.lst true [.int a3, .int b3, .int c3], .lst false (iL (poolL l ((l * 32768 + u) % 2147483647)))]) :
    nk0 (fnD 1 3 fx_law_yv_residue (B_law_yv_residue go gt)) [.lst true [.int a, .int b, .int c]] = .ok (.int x) [.lst true [.int a3, .int b3, .int c3]] := by
  have e1 : ∀ v : Int, mulD (.lst true [.int v]) (.int 3) = some (.lst true [.int v, .int v, .int v]) := fun _ => rfl
  have e2 : mulD (.int l) (.int 32768) = some (.int (l * 32768)) := by simp [mulD, m]
  simp only [iL, poolL, List.map] at o1
  simp [B_law_yv_residue, fx_law_yv_residue, nk0, fnD, outD, sq, sRet, sIf, sNil, sExpr, sSet, sPar, sPar3, sAsg, sSto, putAt, onE, onT, andV, orV, notV, andT, orT, notT, ifE, tst, Rz.bind, nm, vl, cst, bin, uno, chn, dsp, acons, anil, callD, okA, lendD, wbD, runL, mtD, appL, extL, popL, Hdl.get, valsOf, D.nks, D.nk, D.pl, D.pls, D.frz, D.frzs, nkU, isiD, isiB, iop, iopC, ltD, leD, gtD, geD, addD, subD, modD, fdivD, negD, modC, isND, notND, isNB, gN, gT, gU, gC, gNo, lamD, frzAll, cloOf, onlyD, fz, astar, sRaise, intD, t1, t2, o1, e1, e2]
theorem residue_jar {j : D} {m : Nat} (h : Jar m j) (hm : m < 800000) : ∃ x j', isR x ∧ Jar (m + 3) j' ∧ d_law_yv_residue [j] = .ok (.int x) [j'] := by
  obtain ⟨l, j1, l0, l1, h1, e1⟩ := take_jar h (by omega) (k := 65536) (by omega) (by decide)
  obtain ⟨u, j2, u0, u1, h2, e2⟩ := take_jar h1 (by omega) (k := 32768) (by omega) (by decide)
  obtain ⟨v, hv⟩ : ∃ v : Int, v = (l * 32768 + u) % 2147483647 := ⟨_, rfl⟩
  have v0 : 0 ≤ v := by rw [hv]; exact Int.emod_nonneg _ (by omega)
  have v1 : v < 2147483647 := by rw [hv]; exact Int.emod_lt_of_pos _ (by omega)
  obtain ⟨x, j3, hx, h3, e3⟩ := one_int (o := false) (xs := poolL l v) h2 (by omega) (by simp) (by simp)
  rw [hv] at e3
  obtain ⟨_, _, _, rfl⟩ := jar_shape h
  obtain ⟨_, _, _, rfl⟩ := jar_shape h1
  obtain ⟨_, _, _, rfl⟩ := jar_shape h2
  obtain ⟨_, _, _, rfl⟩ := jar_shape h3
  refine ⟨x, _, ?_, h3, o_residue (go := d_law_one) (gt := d_law_take) e1 e2 (mulC_r (by omega) (by omega)) e3⟩
  simp only [poolL, List.mem_cons, List.not_mem_nil, or_false] at hx
  exact ⟨by omega, by omega⟩
theorem res_lc {j : D} {m : Nat} {a b : D} {n : Nat} (hj : Jar m j) (hm : m < 100000) (hn : n ≤ 1000) : ∃ p j' s4, Res p ∧ p.length = n ∧ Jar (m + 3 * n) j' ∧ lcL (gN 4) yesT (callD d_law_yv_residue (acons (nm 0) (anil))) [4] ((List.range n).map fun (k : Nat) => D.int (k : Int)) [] [j, a, b, .un, .un] = .ok (iL p) [j', a, b, .un, s4] := by
  obtain ⟨acc, τ', e, p, j', s4, rfl, rfl, h1, h2, h3⟩ := lcL_inv (t := gN 4) (q := yesT) (f := callD d_law_yv_residue (acons (nm 0) (anil))) (ow := [4]) (ds := (List.range n).map fun (k : Nat) => D.int (k : Int)) (τ := [j, a, b, .un, .un])
    (fun k acc τ => ∃ p j' s4, acc = iL p ∧ τ = [j', a, b, .un, s4] ∧ Res p ∧ p.length = k ∧ Jar (m + 3 * k) j') (by simp; omega) (fun k acc τ hI => by
      obtain ⟨p, j', s4, rfl, _, _, h2, _⟩ := hI
      rw [iL_len]
      omega) (fun k d acc τ hd hI => by
      obtain ⟨p, j', s4, rfl, rfl, h1, h2, h3⟩ := hI
      obtain ⟨hk, rfl⟩ := range_i hd
      obtain ⟨x, j2, hx, h4, e4⟩ := residue_jar h3 (by omega)
      obtain ⟨a1, b1, c1, rfl⟩ := jar_shape h3
      obtain ⟨a2, b2, c2, rfl⟩ := jar_shape h4
      refine ⟨[.lst true [.int a1, .int b1, .int c1], a, b, .un, .int (k : Int)], by simp [gN, wipeD], .inr ⟨[.lst true [.int a1, .int b1, .int c1], a, b, .un, .int (k : Int)], .int x, [.lst true [.int a2, .int b2, .int c2], a, b, .un, .int (k : Int)], rfl, ?_, p ++ [x], _, _, (iL_app p [x]).symm, rfl, fun y hy => ?_, by simp [h2], by rw [show m + 3 * (k + 1) = m + 3 * k + 3 by omega]; exact h4⟩⟩
      · have o : ∀ g : List D → Rt, g [.lst true [.int a1, .int b1, .int c1]] = .ok (.int x) [.lst true [.int a2, .int b2, .int c2]] → callD g (acons (nm 0) (anil)) [.lst true [.int a1, .int b1, .int c1], a, b, .un, .int (k : Int)] = .ok (.val (.int x)) [.lst true [.int a2, .int b2, .int c2], a, b, .un, .int (k : Int)] := fun g c => by
          simp [nk0, fnD, outD, sq, sRet, sIf, sNil, sExpr, sSet, sPar, sPar3, sAsg, sSto, putAt, onE, onT, andV, orV, notV, andT, orT, notT, ifE, tst, Rz.bind, nm, vl, cst, bin, uno, chn, dsp, acons, anil, callD, okA, lendD, wbD, runL, mtD, appL, extL, popL, Hdl.get, valsOf, D.nks, D.nk, D.pl, D.pls, D.frz, D.frzs, nkU, isiD, isiB, iop, iopC, ltD, leD, gtD, geD, addD, subD, mulD, modD, fdivD, negD, modC, isND, notND, isNB, ixD, plO, gN, gT, gU, gC, gNo, lamD, frzAll, cloOf, onlyD, fz, astar, sRaise, c]
        exact o d_law_yv_residue e4
      · rcases List.mem_append.mp hy with hy | hy
        · exact h1 y hy
        · rw [List.mem_singleton.mp hy]
          exact hx) ⟨[], j, .un, rfl, rfl, Res.nil, rfl, hj⟩
  rw [List.length_map, List.length_range] at h2 h3
  exact ⟨p, j', s4, h1, h2, h3, e⟩
theorem cut_any (p : List Int) (n : Nat) : cutD (iL p) none (some (n : Int)) = iL (p.take n) := by
  unfold cutD
  rw [HT.sIx_none, HT.sIx_nat, List.drop_zero, Nat.sub_zero]
  unfold iL
  rw [List.length_map, ← List.map_take]
  congr 1
  rw [List.take_eq_take_iff]
  omega
theorem slc_any (o : Bool) (p : List Int) (n : Nat) : slcD (.lst o (iL p)) none (some (n : Int)) = some (.lst true (iL (p.take n))) := by
  show (if D.pls (iL p) then some (D.lst true (cutD (iL p) none (some (n : Int)))) else none) = _
  rw [if_pos (iL_pl p), cut_any]
theorem slcT_any (p : List Int) (n : Nat) : slcD (pt p) none (some (n : Int)) = some (pt (p.take n)) := by
  show (if D.pls (iL p) then some (D.tup (cutD (iL p) none (some (n : Int)))) else none) = _
  rw [if_pos (iL_pl p), cut_any]
theorem add_any (o o' : Bool) {p q : List Int} (h : p.length + q.length ≤ 1000) : addD (.lst o (iL p)) (.lst o' (iL q)) = some (.lst true (iL (p ++ q))) := by
  show (if D.pls (iL p) && D.pls (iL q) && decide ((iL p).length + (iL q).length ≤ 100000) then some (D.lst true (iL p ++ iL q)) else none) = _
  rw [iL_pl, iL_pl, iL_len, iL_len, decide_eq_true (by omega), iL_app]
  rfl
theorem addT_any {p q : List Int} (h : p.length + q.length ≤ 1000) : addD (pt p) (pt q) = some (pt (p ++ q)) := by
  show (if D.pls (iL p) && D.pls (iL q) && decide ((iL p).length + (iL q).length ≤ 100000) then some (D.tup (iL p ++ iL q)) else none) = _
  rw [iL_pl, iL_pl, iL_len, iL_len, decide_eq_true (by omega)]
  show some (D.tup (iL p ++ iL q)) = some (D.tup (iL (p ++ q)))
  rw [iL_app]
abbrev manyL (m : Int) : List Int := [0, 1, 1, 2, 3, 4, 6, m]
theorem Res.zeros (n : Nat) : Res (List.replicate n 0) := fun x hx => by
  rw [(List.mem_replicate.mp hx).2]
  exact ⟨by omega, by omega⟩
theorem Res.app {p q : List Int} (h : Res p) (h2 : Res q) : Res (p ++ q) := fun x hx => (List.mem_append.mp hx).elim (h x) (h2 x)
theorem Res.take {p : List Int} (h : Res p) (n : Nat) : Res (p.take n) := fun x hx => h x (List.mem_of_mem_take hx)
theorem Res.drop {p : List Int} (h : Res p) (n : Nat) : Res (p.drop n) := fun x hx => h x (List.mem_of_mem_drop hx)
theorem poly_jar {j : D} {m most : Nat} (hj : Jar m j) (hm : m < 90000) (h2 : 2 ≤ most) (h40 : most ≤ 40) : ∃ p j', Res p ∧ p.length ≤ most ∧ Jar (m + 130) j' ∧ d_law_c2_poly [j, .int (most : Int)] = .ok (pt p) [j', .int (most : Int)] := by
  obtain ⟨v, j1, hv, hj1, e1⟩ := one_int (o := false) (xs := manyL (most : Int)) hj (by omega) (by simp) (by simp)
  have v0 : 0 ≤ v := by
    simp only [manyL, List.mem_cons, List.not_mem_nil, or_false] at hv
    omega
  obtain ⟨n, hn⟩ : ∃ n : Nat, (if (most : Int) < v then (most : Int) else v) = (n : Int) ∧ n ≤ most := by
    by_cases h : (most : Int) < v
    · exact ⟨most, by rw [if_pos h], by omega⟩
    · exact ⟨v.toNat, by rw [if_neg h]; omega, by omega⟩
  obtain ⟨p, j2, s4, rp, lp, hj2, e2⟩ := res_lc (a := .int (most : Int)) (b := .int v) (n := n) hj1 (by omega) (by omega)
  obtain ⟨r, j3, r1, hj3, e3⟩ := take_nat (n := 5) hj2 (by omega) (by omega) (by omega)
  have fin : ∀ (p' : List Int) (j4 : D) (m4 : Nat), Res p' → p'.length ≤ most → m4 + 1 ≤ m + 130 → Jar m4 j4 →
      (∀ F : SDen, (sq (sSet 2 (fz (callD d_law_one (acons (nm 0) (acons (fz (dsp (.lst true) (acons (cst (.int 0)) (acons (cst (.int 1)) (acons (cst (.int 1)) (acons (cst (.int 2)) (acons (cst (.int 3)) (acons (cst (.int 4)) (acons (cst (.int 6)) (acons (vl 1) (anil))))))))))) (anil)))))) (sq (sSet 3 (lcE (rgS1 (bin min2D (nm 2) (nm 1))) (gN 4) (yesT) (callD d_law_yv_residue (acons (nm 0) (anil))) [4])) (sq (sIf (tst (bin eqD (callD d_law_take (acons (nm 0) (acons (cst (.int 5)) (anil)))) (cst (.int 0)))) (sSet 3 (fz (bin addD (slc (nm 3) (pn) (pso (bin subD (nm 1) (cst (.int 2))))) (fz (bin mulD (dsp (.lst true) (acons (cst (.int 0)) (anil))) (callD d_law_one (acons (nm 0) (acons (fz (dsp (.lst true) (acons (cst (.int 1)) (acons (cst (.int 2)) (anil))))) (anil))))))))) (sNil)) F))) [j, .int (most : Int), .un, .un, .un] = F [j4, .int (most : Int), .int v, .lst true (iL p'), .un] ∨ (sq (sSet 2 (fz (callD d_law_one (acons (nm 0) (acons (fz (dsp (.lst true) (acons (cst (.int 0)) (acons (cst (.int 1)) (acons (cst (.int 1)) (acons (cst (.int 2)) (acons (cst (.int 3)) (acons (cst (.int 4)) (acons (cst (.int 6)) (acons (vl 1) (anil))))))))))) (anil)))))) (sq (sSet 3 (lcE (rgS1 (bin min2D (nm 2) (nm 1))) (gN 4) (yesT) (callD d_law_yv_residue (acons (nm 0) (anil))) [4])) (sq (sIf (tst (bin eqD (callD d_law_take (acons (nm 0) (acons (cst (.int 5)) (anil)))) (cst (.int 0)))) (sSet 3 (fz (bin addD (slc (nm 3) (pn) (pso (bin subD (nm 1) (cst (.int 2))))) (fz (bin mulD (dsp (.lst true) (acons (cst (.int 0)) (anil))) (callD d_law_one (acons (nm 0) (acons (fz (dsp (.lst true) (acons (cst (.int 1)) (acons (cst (.int 2)) (anil))))) (anil))))))))) (sNil)) F))) [j, .int (most : Int), .un, .un, .un] = F [j4, .int (most : Int), .int v, .lst false (iL p'), .un]) →
      ∃ p j', Res p ∧ p.length ≤ most ∧ Jar (m + 130) j' ∧ d_law_c2_poly [j, .int (most : Int)] = .ok (pt p) [j', .int (most : Int)] := fun p' j4 m4 h1 h2 h3 h4 h5 => by
    obtain ⟨u, j5, u1, hj5, e5⟩ := take_nat (n := 20) h4 (by omega) (by omega) (by omega)
    obtain ⟨a4, b4, c4, rfl⟩ := jar_shape h4
    obtain ⟨a5, b5, c5, rfl⟩ := jar_shape hj5
    obtain ⟨a0, b0, c0, rfl⟩ := jar_shape hj
    have lp' := iL_len p'
    have pl' := iL_pl p'
    have zt := zeros_tup p'.length (by omega)
    have key : ∀ (o : Bool) (gt : List D → Rt), gt [.lst true [.int a4, .int b4, .int c4], .int 20] = .ok (.int (u : Int)) [.lst true [.int a5, .int b5, .int c5], .int 20] →
        sRet (ifE (tst (bin gtD (callD gt (acons (nm 0) (acons (cst (.int 20)) (anil)))) (cst (.int 0)))) (uno tupleD (nm 3)) (bin mulD (dsp .tup (acons (cst (.int 0)) (anil))) (uno lenD (nm 3)))) [.lst true [.int a4, .int b4, .int c4], .int (most : Int), .int v, .lst o (iL p'), .un] = .rt (if u = 0 then pt (List.replicate p'.length 0) else pt p') [.lst true [.int a5, .int b5, .int c5], .int (most : Int), .int v, .lst o (iL p'), .un] := fun o gt c => by
      by_cases hu : u = 0
      · subst hu
        simp [nk0, fnD, outD, sq, sRet, sIf, sNil, sExpr, sSet, sPar, sPar3, sAsg, sSto, putAt, onE, onT, andV, orV, notV, andT, orT, notT, ifE, tst, Rz.bind, nm, vl, cst, bin, uno, chn, dsp, acons, anil, callD, okA, lendD, wbD, runL, mtD, appL, extL, popL, Hdl.get, valsOf, D.nks, D.nk, D.pl, D.pls, D.frz, D.frzs, nkU, isiD, isiB, iop, iopC, ltD, leD, gtD, geD, addD, subD, modD, fdivD, negD, modC, isND, notND, isNB, gN, gT, gU, gC, gNo, lamD, frzAll, cloOf, onlyD, fz, astar, sRaise, c, lenD, lp', zt]
      · have : 0 < u := by omega
        simp [nk0, fnD, outD, sq, sRet, sIf, sNil, sExpr, sSet, sPar, sPar3, sAsg, sSto, putAt, onE, onT, andV, orV, notV, andT, orT, notT, ifE, tst, Rz.bind, nm, vl, cst, bin, uno, chn, dsp, acons, anil, callD, okA, lendD, wbD, runL, mtD, appL, extL, popL, Hdl.get, valsOf, D.nks, D.nk, D.pl, D.pls, D.frz, D.frzs, nkU, isiD, isiB, iop, iopC, ltD, leD, gtD, geD, addD, subD, mulD, modD, fdivD, negD, modC, isND, notND, isNB, ixD, plO, gN, gT, gU, gC, gNo, lamD, frzAll, cloOf, onlyD, fz, astar, sRaise, c, tupleD, pl', this, hu]
    have hb : ∃ o, b_law_c2_poly [.lst true [.int a0, .int b0, .int c0], .int (most : Int), .un, .un, .un] = .rt (if u = 0 then pt (List.replicate p'.length 0) else pt p') [.lst true [.int a5, .int b5, .int c5], .int (most : Int), .int v, .lst o (iL p'), .un] := by
      rcases h5 (sRet (ifE (tst (bin gtD (callD d_law_take (acons (nm 0) (acons (cst (.int 20)) (anil)))) (cst (.int 0)))) (uno tupleD (nm 3)) (bin mulD (dsp .tup (acons (cst (.int 0)) (anil))) (uno lenD (nm 3))))) with h5 | h5
      · exact ⟨true, h5.trans (key true d_law_take e5)⟩
      · exact ⟨false, h5.trans (key false d_law_take e5)⟩
    obtain ⟨o, hb⟩ := hb
    refine ⟨if u = 0 then List.replicate p'.length 0 else p', _, ?_, ?_, hj5.mono (by omega), ?_⟩
    · split
      · exact Res.zeros _
      · exact h1
    · split
      · simp; omega
      · exact h2
    · have er : (if u = 0 then pt (List.replicate p'.length 0) else pt p') = pt (if u = 0 then List.replicate p'.length 0 else p') := by split <;> rfl
      rw [er] at hb
      exact (nk0_ok rfl rfl hb (show D.nk (pt _) = true from iL_nk _) (by simp [outD, fx_law_c2_poly, nkU, D.nk, D.nks])).trans (by simp [outD, fx_law_c2_poly])
  obtain ⟨a0, b0, c0, rfl⟩ := jar_shape hj
  obtain ⟨a1, b1, c1, rfl⟩ := jar_shape hj1
  obtain ⟨a2, b2, c2, rfl⟩ := jar_shape hj2
  obtain ⟨a3, b3, c3, rfl⟩ := jar_shape hj3
  have st1 : ∀ g : List D → Rt, g [.lst true [.int a0, .int b0, .int c0], .lst false (iL (manyL (most : Int)))] = .ok (.int v) [.lst true [.int a1, .int b1, .int c1], .lst false (iL (manyL (most : Int)))] →
      sSet 2 (fz (callD g (acons (nm 0) (acons (fz (dsp (.lst true) (acons (cst (.int 0)) (acons (cst (.int 1)) (acons (cst (.int 1)) (acons (cst (.int 2)) (acons (cst (.int 3)) (acons (cst (.int 4)) (acons (cst (.int 6)) (acons (vl 1) (anil))))))))))) (anil))))) [.lst true [.int a0, .int b0, .int c0], .int (most : Int), .un, .un, .un] = .nx [.lst true [.int a1, .int b1, .int c1], .int (most : Int), .int v, .un, .un] := fun g c => by
    simp only [iL, manyL, List.map] at c
    simp [nk0, fnD, outD, sq, sRet, sIf, sNil, sExpr, sSet, sPar, sPar3, sAsg, sSto, putAt, onE, onT, andV, orV, notV, andT, orT, notT, ifE, tst, Rz.bind, nm, vl, cst, bin, uno, chn, dsp, acons, anil, callD, okA, lendD, wbD, runL, mtD, appL, extL, popL, Hdl.get, valsOf, D.nks, D.nk, D.pl, D.pls, D.frz, D.frzs, nkU, isiD, isiB, iop, iopC, ltD, leD, gtD, geD, addD, subD, mulD, modD, fdivD, negD, modC, isND, notND, isNB, ixD, plO, gN, gT, gU, gC, gNo, lamD, frzAll, cloOf, onlyD, fz, astar, sRaise, c]
  have st1 := st1 d_law_one e1
  have st2 : (sSet 3 (lcE (rgS1 (bin min2D (nm 2) (nm 1))) (gN 4) (yesT) (callD d_law_yv_residue (acons (nm 0) (anil))) [4])) [.lst true [.int a1, .int b1, .int c1], .int (most : Int), .int v, .un, .un] = .nx [.lst true [.int a2, .int b2, .int c2], .int (most : Int), .int v, .lst true (iL p), .un] := by
    refine set_of (d := .lst true (iL p)) (τ1 := [.lst true [.int a2, .int b2, .int c2], .int (most : Int), .int v, .un, .un]) ?_
    refine (lcE_of (rgS1_of (h := .val (.int (n : Int))) (n := n) ?_ rfl (by omega)) e2).trans ?_
    · have : min2D (.int v) (.int (most : Int)) = some (.int (n : Int)) := by
        show some (D.int (if (most : Int) < v then (most : Int) else v)) = _
        rw [hn.1]
      simp [nk0, fnD, outD, sq, sRet, sIf, sNil, sExpr, sSet, sPar, sPar3, sAsg, sSto, putAt, onE, onT, andV, orV, notV, andT, orT, notT, ifE, tst, Rz.bind, nm, vl, cst, bin, uno, chn, dsp, acons, anil, callD, okA, lendD, wbD, runL, mtD, appL, extL, popL, Hdl.get, valsOf, D.nks, D.nk, D.pl, D.pls, D.frz, D.frzs, nkU, isiD, isiB, iop, iopC, ltD, leD, gtD, geD, addD, subD, mulD, modD, fdivD, negD, modC, isND, notND, isNB, ixD, plO, gN, gT, gU, gC, gNo, lamD, frzAll, cloOf, onlyD, fz, astar, sRaise, this]
    · simp [backD, wipeD]
  by_cases h0 : r = 0
  · subst h0
    obtain ⟨w, j4, hw, hj4, e4⟩ := one_int (o := false) (xs := [1, 2]) hj3 (by omega) (by simp) (by simp)
    obtain ⟨a4, b4, c4, rfl⟩ := jar_shape hj4
    obtain ⟨z, hz, z2⟩ : ∃ z : Nat, w = (z : Int) ∧ z ≤ 2 := by
      simp only [List.mem_cons, List.not_mem_nil, or_false] at hw
      exact ⟨w.toNat, by omega, by omega⟩
    subst hz
    have lt : (p.take (most - 2)).length ≤ most - 2 := by rw [List.length_take]; omega
    refine fin (p.take (most - 2) ++ List.replicate z 0) _ (m + 3 * n + 3) (Res.app (Res.take rp _) (Res.zeros z)) (by rw [List.length_append, List.length_replicate]; omega) (by omega) (hj4.mono (by omega)) fun F => .inr ?_
    refine (sq_nx st1).trans ((sq_nx st2).trans (sq_nx ?_))
    have ec : ((most - 2 : Nat) : Int) = (most : Int) - 2 := by omega
    have sl := slc_any true p (most - 2)
    rw [ec] at sl
    have zm := zeros_mul z (by omega)
    have ad := add_any true false (p := p.take (most - 2)) (q := List.replicate z 0) (by rw [List.length_replicate]; omega)
    have f1 := iL_frz (List.replicate z 0)
    have f2 := iL_frz (p.take (most - 2) ++ List.replicate z 0)
    have o : ∀ gt go : List D → Rt, gt [.lst true [.int a2, .int b2, .int c2], .int 5] = .ok (.int 0) [.lst true [.int a3, .int b3, .int c3], .int 5] → go [.lst true [.int a3, .int b3, .int c3], .lst false [.int 1, .int 2]] = .ok (.int (z : Int)) [.lst true [.int a4, .int b4, .int c4], .lst false [.int 1, .int 2]] →
        sIf (tst (bin eqD (callD gt (acons (nm 0) (acons (cst (.int 5)) (anil)))) (cst (.int 0)))) (sSet 3 (fz (bin addD (slc (nm 3) (pn) (pso (bin subD (nm 1) (cst (.int 2))))) (fz (bin mulD (dsp (.lst true) (acons (cst (.int 0)) (anil))) (callD go (acons (nm 0) (acons (fz (dsp (.lst true) (acons (cst (.int 1)) (acons (cst (.int 2)) (anil))))) (anil))))))))) (sNil) [.lst true [.int a2, .int b2, .int c2], .int (most : Int), .int v, .lst true (iL p), .un] = .nx [.lst true [.int a4, .int b4, .int c4], .int (most : Int), .int v, .lst false (iL (p.take (most - 2) ++ List.replicate z 0)), .un] := fun gt go c1 c2 => by
      have ad' : addD (.lst true (iL (p.take (most - 2)))) (.lst false (iL (List.replicate z 0))) = some (.lst true (iL (p.take (most - 2) ++ List.replicate z 0))) := ad
      generalize iL (p.take (most - 2) ++ List.replicate z 0) = L3 at *
      generalize iL (p.take (most - 2)) = L1 at *
      generalize iL (List.replicate z 0) = L2 at *
      have i5 : iop (fun i j => D.int (i - j)) (.int (most : Int)) (.int 2) = some (.int ((most : Int) - 2)) := rfl
      simp [nk0, sIf, sSet, onE, onT, tst, Rz.bind, nm, cst, bin, dsp, acons, anil, callD, okA, lendD, wbD, Hdl.get, valsOf, fz, D.nks, D.nk, D.pl, D.pls, D.frz, D.frzs, c1, c2, eqi, slc, pn, pso, subD, iopC, iop, sl, zm, ad', f1, f2]
    exact o d_law_take d_law_one e3 e4
  · refine fin p _ (m + 3 * n + 2) rp (by omega) (by omega) (hj3.mono (by omega)) fun F => .inl ?_
    refine (sq_nx st1).trans ((sq_nx st2).trans (sq_nx ?_))
    have o : ∀ gt : List D → Rt, ∀ X : SDen, gt [.lst true [.int a2, .int b2, .int c2], .int 5] = .ok (.int (r : Int)) [.lst true [.int a3, .int b3, .int c3], .int 5] →
        sIf (tst (bin eqD (callD gt (acons (nm 0) (acons (cst (.int 5)) (anil)))) (cst (.int 0)))) X (sNil) [.lst true [.int a2, .int b2, .int c2], .int (most : Int), .int v, .lst true (iL p), .un] = .nx [.lst true [.int a3, .int b3, .int c3], .int (most : Int), .int v, .lst true (iL p), .un] := fun gt X c1 => by
      have hz : ¬ ((r : Int) = 0) := by omega
      simp [nk0, fnD, outD, sq, sRet, sIf, sNil, sExpr, sSet, sPar, sPar3, sAsg, sSto, putAt, onE, onT, andV, orV, notV, andT, orT, notT, ifE, tst, Rz.bind, nm, vl, cst, bin, uno, chn, dsp, acons, anil, callD, okA, lendD, wbD, runL, mtD, appL, extL, popL, Hdl.get, valsOf, D.nks, D.nk, D.pl, D.pls, D.frz, D.frzs, nkU, isiD, isiB, iop, iopC, ltD, leD, gtD, geD, addD, subD, mulD, modD, fdivD, negD, modC, isND, notND, isNB, ixD, plO, gN, gT, gU, gC, gNo, lamD, frzAll, cloOf, onlyD, fz, astar, sRaise, c1, eqi, h0]
    exact o d_law_take _ e3
end Law
end

section
set_option Elab.async false
set_option linter.all false
set_option maxRecDepth 100000
set_option maxHeartbeats 4000000
namespace Law
open Y Num
/-! ### things bent -/
theorem pow25 : powD (.int 10) (.int 25) = some (.int 10000000000000000000000000) := pow_of (by decide +kernel) (by decide +kernel)
def oddL : List D := [.non, .str "0", .bl true, .bl false, .int (-1), .int 0, .int 10000000000000000000000000, .tup [], .tup [.int 0], .lst false [.int 0], .str "row"]
theorem Sh.str (s : PySem.Str) (h : PySem.PyData.canLay0 (.str s) = true) (k : Nat) : Sh k (.str s) := ⟨rfl, .str s, rfl, h, Nat.zero_le _⟩
theorem odd_sh {d : D} (h : d ∈ oddL) : Sh 1 d ∧ sz d ≤ 2 := by
  have hs : Sh 1 (.str "0") := Sh.str _ (by decide +kernel) 1
  have hs2 : Sh 1 (.str "row") := Sh.str _ (by decide +kernel) 1
  have t0 : Sh 1 (.tup []) := Sh.tup (k := 0) fun d h => by cases h
  have t1 : Sh 1 (.tup [.int 0]) := Sh.tup (k := 0) fun d h => by rw [List.mem_singleton.mp h]; exact Sh.int 0 0
  have l1 : Sh 1 (.lst false [.int 0]) := Sh.lst (k := 0) fun d h => by rw [List.mem_singleton.mp h]; exact Sh.int 0 0
  simp only [oddL, List.mem_cons, List.not_mem_nil, or_false] at h
  rcases h with rfl | rfl | rfl | rfl | rfl | rfl | rfl | rfl | rfl | rfl | rfl <;> refine ⟨?_, by simp [sz, szs]⟩ <;> first | assumption | exact Sh.non 1 | exact Sh.bl _ 1 | exact Sh.int _ 1
theorem odd_gds : gds oddL = true := by decide +kernel
theorem slc_to {R : List D} (k : Nat) (hp : D.pls R = true) : slcD (.tup R) none (some (k : Int)) = some (.tup (R.take k)) := by
  show (if D.pls R then some (D.tup (cutD R none (some (k : Int)))) else none) = _
  rw [if_pos hp]
  unfold cutD
  rw [HT.sIx_none, HT.sIx_nat, List.drop_zero, Nat.sub_zero]
  congr 2
  rw [List.take_eq_take_iff]
  omega
theorem slc_from {R : List D} {k : Nat} (hp : D.pls R = true) (hk : k ≤ R.length) : slcD (.tup R) (some (k : Int)) none = some (.tup (R.drop k)) := by
  show (if D.pls R then some (D.tup (cutD R (some (k : Int)) none)) else none) = _
  rw [if_pos hp]
  unfold cutD
  rw [HT.sIx_none, HT.sIx_nat, Nat.min_eq_left hk]
  congr 2
  exact List.take_of_length_le (by simp)
theorem add_tup {xs ys : List D} (h1 : D.pls xs = true) (h2 : D.pls ys = true) (h : xs.length + ys.length ≤ 100000) : addD (.tup xs) (.tup ys) = some (.tup (xs ++ ys)) := by
  show (if D.pls xs && D.pls ys && decide (xs.length + ys.length ≤ 100000) then some (D.tup (xs ++ ys)) else none) = _
  rw [h1, h2, decide_eq_true h]
  rfl
/-- what a thing bent by a form other than within may be -/
def bentL (ds : List D) (at' : Nat) (odd : D) : List D := [.tup (ds.take at' ++ [odd] ++ ds.drop (at' + 1)), .tup (ds.take at' ++ ds.drop (at' + 1)), .tup (ds.take (at' + 1) ++ ds.drop at'), .tup (ds.take at' ++ (ds.drop at').reverse), .lst false ds, .tup (ds ++ [odd])]
theorem szs_take (ds : List D) (n : Nat) : szs (ds.take n) + szs (ds.drop n) = szs ds := by
  conv => rhs; rw [← List.take_append_drop n ds]
  rw [szs_append]
theorem szs_reverse : ∀ ds : List D, szs ds.reverse = szs ds
  | [] => rfl
  | d :: ds => by
    rw [List.reverse_cons, szs_append, szs_reverse ds]
    simp [szs]
    omega
theorem bentL_ok {k : Nat} {ds : List D} {at' : Nat} {odd d : D} (h : ∀ d ∈ ds, Sh k d) (ho : Sh 1 odd) (hz : sz odd ≤ 2) (hd : d ∈ bentL ds at' odd) : Sh (k + 2) d ∧ sz d ≤ 2 * sz (.tup ds) + 2 := by
  have h' : ∀ d ∈ ds, Sh (k + 1) d := fun d hd => (h d hd).mono (by omega)
  have ho' : Sh (k + 1) odd := ho.mono (by omega)
  have ht : ∀ (n : Nat), ∀ d ∈ ds.take n, Sh (k + 1) d := fun n d hd => h' d (List.mem_of_mem_take hd)
  have hr : ∀ (n : Nat), ∀ d ∈ ds.drop n, Sh (k + 1) d := fun n d hd => h' d (List.mem_of_mem_drop hd)
  have s1 := szs_take ds at'
  have s2 := szs_take ds (at' + 1)
  simp only [bentL, List.mem_cons, List.not_mem_nil, or_false] at hd
  rcases hd with rfl | rfl | rfl | rfl | rfl | rfl
  · refine ⟨Sh.tup fun d hd => ?_, ?_⟩
    · rcases List.mem_append.mp hd with hd | hd
      · rcases List.mem_append.mp hd with hd | hd
        · exact ht _ d hd
        · rw [List.mem_singleton.mp hd]; exact ho'
      · exact hr _ d hd
    · simp only [sz, szs_append, szs]; omega
  · refine ⟨Sh.tup fun d hd => (List.mem_append.mp hd).elim (ht _ d) (hr _ d), ?_⟩
    simp only [sz, szs_append]; omega
  · refine ⟨Sh.tup fun d hd => (List.mem_append.mp hd).elim (ht _ d) (hr _ d), ?_⟩
    simp only [sz, szs_append]; omega
  · refine ⟨Sh.tup fun d hd => (List.mem_append.mp hd).elim (ht _ d) fun hd => hr _ d (List.mem_reverse.mp hd), ?_⟩
    simp only [sz, szs_append, szs_reverse]; omega
  · refine ⟨Sh.lst h', ?_⟩
    simp only [sz]; omega
  · refine ⟨Sh.tup fun d hd => (List.mem_append.mp hd).elim (h' d) fun hd => (by rw [List.mem_singleton.mp hd]; exact ho'), ?_⟩
    simp only [sz, szs_append, szs]; omega
theorem bent_odd {g1 : List D → Rt} {a b c a1 b1 c1 : Int} {x odd : D} (ho : gd odd = true) (hx : gd x = true) (h1 : g1 [.lst true [.int a, .int b, .int c], .lst false oddL] = .ok odd [.lst true [.int a1, .int b1, .int c1], .lst false oddL]) :
    sSet 2 (fz (callD g1 (acons (nm 0) (acons (fz (dsp (.lst true) (acons (cst .non) (acons (cst (.str "0")) (acons (cst (.bl true)) (acons (cst (.bl false)) (acons (uno negD (cst (.int 1))) (acons (cst (.int 0)) (acons (bin powD (cst (.int 10)) (cst (.int 25))) (acons (dsp .tup (anil)) (acons (dsp .tup (acons (cst (.int 0)) (anil))) (acons (fz (dsp (.lst true) (acons (cst (.int 0)) (anil)))) (acons (cst (.str "row")) (anil)))))))))))))) (anil))))) [.lst true [.int a, .int b, .int c], x, .un, .un, .un, .un] = .nx [.lst true [.int a1, .int b1, .int c1], x, odd, .un, .un, .un] := by
  have e := gd_ok ho
  unfold oddL at h1
  simp [nk0, fnD, outD, sq, sRet, sIf, sNil, sExpr, sSet, sPar, sPar3, sAsg, sSto, putAt, onE, onT, andV, orV, notV, andT, orT, notT, ifE, tst, Rz.bind, nm, vl, cst, bin, uno, chn, dsp, acons, anil, callD, okA, lendD, wbD, runL, mtD, appL, extL, popL, Hdl.get, valsOf, D.nks, D.nk, D.pl, D.pls, D.frz, D.frzs, nkU, isiD, isiB, iop, iopC, ltD, leD, gtD, geD, addD, subD, mulD, modD, fdivD, negD, modC, isND, notND, isNB, ixD, plO, gN, gT, gU, gC, gNo, lamD, frzAll, cloOf, onlyD, fz, astar, sRaise, pow25, h1, e.frz]
theorem o_bent_odd {g1 g2 g3 : List D → Rt} {a b c a1 b1 c1 : Int} {x odd : D} (ho : gd odd = true) (hx : gd x = true) (hn : (∃ ds, x = .tup ds ∧ eqD (.tup ds) (.tup []) = some (.bl true)) ∨ isiD "tuple" x = some (.bl false)) (h1 : g1 [.lst true [.int a, .int b, .int c], .lst false oddL] = .ok odd [.lst true [.int a1, .int b1, .int c1], .lst false oddL]) :
    nk0 (fnD 2 6 fx_law_yv_bent (B_law_yv_bent g1 g2 g3)) [.lst true [.int a, .int b, .int c], x] = .ok odd [.lst true [.int a1, .int b1, .int c1], x] := by
  have e := gd_ok ho
  have ex := gd_ok hx
  have s1 := bent_odd ho hx h1
  have hb : B_law_yv_bent g1 g2 g3 [.lst true [.int a, .int b, .int c], x, .un, .un, .un, .un] = .rt odd [.lst true [.int a1, .int b1, .int c1], x, .un, .un, .un, .un] := by
    unfold B_law_yv_bent
    refine (sq_nx s1).trans (sq_rt ?_)
    rcases hn with ⟨ds, rfl, he⟩ | hn
    · have ei : isiD "tuple" (.tup ds) = some (.bl true) := rfl
      simp [nk0, fnD, outD, sq, ret_eq, retS, sIf, sNil, sExpr, sSet, sPar, sPar3, sAsg, sSto, putAt, onE, onT, andV, orV, notV, andT, orT, notT, ifE, tst, Rz.bind, nm_eq, vl_eq, cst, bin, uno, chn, dsp, acons, anil, callD, okA_nil, okA_val, okA_slot, lendD, wbD, runL, mtD, appL, extL, popL, Hdl.get, valsOf, D.nks, D.nk, D.pl, D.pls, D.frz, D.frzs, iop, iopC, ltD, leD, gtD, geD, addD, subD, mulD, modD, fdivD, negD, modC, isND, notND, isNB, gN, gT, gU, gC, gNo, lamD, frzAll_nil, frzAll_cons, cloOf, onlyD, fz, astar, sRaise, ei, he, e.un, e.pl]
    · simp [nk0, fnD, outD, sq, ret_eq, retS, sIf, sNil, sExpr, sSet, sPar, sPar3, sAsg, sSto, putAt, onE, onT, andV, orV, notV, andT, orT, notT, ifE, tst, Rz.bind, nm_eq, vl_eq, cst, bin, uno, chn, dsp, acons, anil, callD, okA_nil, okA_val, okA_slot, lendD, wbD, runL, mtD, appL, extL, popL, Hdl.get, valsOf, D.nks, D.nk, D.pl, D.pls, D.frz, D.frzs, iop, iopC, ltD, leD, gtD, geD, addD, subD, mulD, modD, fdivD, negD, modC, isND, notND, isNB, gN, gT, gU, gC, gNo, lamD, frzAll_nil, frzAll_cons, cloOf, onlyD, fz, astar, sRaise, hn, e.un, e.pl, ex.un]
  exact (nk0_ok (d := odd) rfl (by simp [D.nks, D.nk, ex.nk]) hb e.nk (by simp [outD, fx_law_yv_bent, D.nk, D.nks, ex.nku])).trans (by simp [outD, fx_law_yv_bent])
theorem o_bent {g1 g2 g3 : List D → Rt} {a b c a1 b1 c1 a2 b2 c2 a3 b3 c3 : Int} {ds : List D} {odd : D} {n form : Nat} (ho : gd odd = true) (hx : gd (.tup ds) = true) (hn : eqD (.tup ds) (.tup []) = some (.bl false)) (hl : ds.length ≤ 1000) (hnl : n < ds.length) (hf : form < 9)
    (h1 : g1 [.lst true [.int a, .int b, .int c], .lst false oddL] = .ok odd [.lst true [.int a1, .int b1, .int c1], .lst false oddL])
    (h2 : g2 [.lst true [.int a1, .int b1, .int c1], .int (ds.length : Int)] = .ok (.int (n : Int)) [.lst true [.int a2, .int b2, .int c2], .int (ds.length : Int)])
    (h3 : g2 [.lst true [.int a2, .int b2, .int c2], .int 9] = .ok (.int (form : Int)) [.lst true [.int a3, .int b3, .int c3], .int 9]) :
    (form < 3 → ∀ (d : D) (a4 b4 c4 : Int), gd d = true → g3 [.lst true [.int a3, .int b3, .int c3], ds[n]] = .ok d [.lst true [.int a4, .int b4, .int c4], ds[n]] → nk0 (fnD 2 6 fx_law_yv_bent (B_law_yv_bent g1 g2 g3)) [.lst true [.int a, .int b, .int c], .tup ds] = .ok (.tup (ds.take n ++ [d] ++ ds.drop (n + 1))) [.lst true [.int a4, .int b4, .int c4], .tup ds]) ∧
    (3 ≤ form → ∃ d ∈ bentL ds n odd, gd d = true → nk0 (fnD 2 6 fx_law_yv_bent (B_law_yv_bent g1 g2 g3)) [.lst true [.int a, .int b, .int c], .tup ds] = .ok d [.lst true [.int a3, .int b3, .int c3], .tup ds]) := by
  have e := gd_ok ho
  have hg : gds ds = true := hx
  obtain ⟨fr, nr, pr⟩ := gds_tup hg
  have gn := gds_at hg (List.getElem_mem hnl)
  have en := gd_ok gn
  have s1 := bent_odd (x := .tup ds) ho hx h1
  have gt : ∀ n, gds (ds.take n) = true := fun n => gds_of fun d hd => gds_at hg (List.mem_of_mem_take hd)
  have gr : ∀ n, gds (ds.drop n) = true := fun n => gds_of fun d hd => gds_at hg (List.mem_of_mem_drop hd)
  have k1 := slc_to n pr
  have k2 := slc_to (n + 1) pr
  have k3 := slc_from (k := n) pr (by omega)
  have k4 := slc_from (k := n + 1) pr (by omega)
  have en1 : ((n + 1 : Nat) : Int) = (n : Int) + 1 := by omega
  rw [en1] at k2 k4
  have ix := ixt_nat (List.getElem?_eq_getElem hnl) en.pl
  have lt : ∀ n, (ds.take n).length ≤ 1000 := fun n => by rw [List.length_take]; omega
  have ld : ∀ n, (ds.drop n).length ≤ 1000 := fun n => by rw [List.length_drop]; omega
  have ss : ∀ F : SDen, sq (sSet 2 (fz (callD g1 (acons (nm 0) (acons (fz (dsp (.lst true) (acons (cst .non) (acons (cst (.str "0")) (acons (cst (.bl true)) (acons (cst (.bl false)) (acons (uno negD (cst (.int 1))) (acons (cst (.int 0)) (acons (bin powD (cst (.int 10)) (cst (.int 25))) (acons (dsp .tup (anil)) (acons (dsp .tup (acons (cst (.int 0)) (anil))) (acons (fz (dsp (.lst true) (acons (cst (.int 0)) (anil)))) (acons (cst (.str "row")) (anil)))))))))))))) (anil))))))
      (sq (sIf (orT (notT (tst (uno (isiD "tuple") (nm 1)))) (tst (bin eqD (nm 1) (dsp .tup (anil))))) (sRet (nm 2)) (sNil)) (sq (sPar 3 4 (acons (callD g2 (acons (nm 0) (acons (uno lenD (nm 1)) (anil)))) (acons (callD g2 (acons (nm 0) (acons (cst (.int 9)) (anil)))) (anil)))) F)) [.lst true [.int a, .int b, .int c], .tup ds, .un, .un, .un, .un] = F [.lst true [.int a3, .int b3, .int c3], .tup ds, odd, .int (n : Int), .int (form : Int), .un] := fun F => by
    refine (sq_nx s1).trans ((sq_nx (τ1 := [.lst true [.int a1, .int b1, .int c1], .tup ds, odd, .un, .un, .un]) ?_).trans (sq_nx ?_))
    · have ei : isiD "tuple" (.tup ds) = some (.bl true) := rfl
      simp [nk0, fnD, outD, sq, ret_eq, retS, sIf, sNil, sExpr, sSet, sPar, sPar3, sAsg, sSto, putAt, onE, onT, andV, orV, notV, andT, orT, notT, ifE, tst, Rz.bind, nm_eq, vl_eq, cst, bin, uno, chn, dsp, acons, anil, callD, okA_nil, okA_val, okA_slot, lendD, wbD, runL, mtD, appL, extL, popL, Hdl.get, valsOf, D.nks, D.nk, D.pl, D.pls, D.frz, D.frzs, iop, iopC, ltD, leD, gtD, geD, addD, subD, mulD, modD, fdivD, negD, modC, isND, notND, isNB, gN, gT, gU, gC, gNo, lamD, frzAll_nil, frzAll_cons, cloOf, onlyD, fz, astar, sRaise, ei, hn]
    · simp [nk0, fnD, outD, sq, ret_eq, retS, sIf, sNil, sExpr, sSet, sPar, sPar3, sAsg, sSto, putAt, onE, onT, andV, orV, notV, andT, orT, notT, ifE, tst, Rz.bind, nm_eq, vl_eq, cst, bin, uno, chn, dsp, acons, anil, callD, okA_nil, okA_val, okA_slot, lendD, wbD, runL, mtD, appL, extL, popL, Hdl.get, valsOf, D.nks, D.nk, D.pl, D.pls, D.frz, D.frzs, isiD, isiB, iop, iopC, ltD, leD, gtD, geD, addD, subD, mulD, modD, fdivD, negD, modC, isND, notND, isNB, gN, gT, gU, gC, gNo, lamD, frzAll_nil, frzAll_cons, cloOf, onlyD, fz, astar, sRaise, lenD, h2, h3, pr]
  refine ⟨fun hf3 d a4 b4 c4 gdd h4 => ?_, fun hf3 => ?_⟩
  · have ed := gd_ok gdd
    have p1 : D.pls [d] = true := by simp [D.pls, ed.pl]
    have p2 : D.pls (ds.take n ++ [d]) = true := gds_pl (by rw [gds_append, gt n]; simp [gds, gdd])
    have ad1 := add_tup (gds_pl (gt n)) p1 (by have := lt n; simp; omega)
    have ad2 := add_tup p2 (gds_pl (gr (n + 1))) (by have := lt n; have := ld (n + 1); simp only [List.length_append, List.length_singleton]; omega)
    have gR : gds (ds.take n ++ [d] ++ ds.drop (n + 1)) = true := by rw [gds_append, gds_append, gt n, gr (n + 1)]; simp [gds, gdd]
    have hz : (form : Int) < 3 := by omega
    have hb : B_law_yv_bent g1 g2 g3 [.lst true [.int a, .int b, .int c], .tup ds, .un, .un, .un, .un] = .rt (.tup (ds.take n ++ [d] ++ ds.drop (n + 1))) [.lst true [.int a4, .int b4, .int c4], .tup ds, odd, .int (n : Int), .int (form : Int), .un] := by
      unfold B_law_yv_bent
      refine (ss _).trans (sq_rt ?_)
      generalize hG : ds.take n ++ [d] ++ ds.drop (n + 1) = G at *
      generalize hT : ds.take n ++ [d] = T at *
      generalize ds.take n = T0 at *
      generalize ds.drop (n + 1) = V at *
      generalize ds[n] = dn at *
      have ai : addD (.int (n : Int)) (.int 1) = some (.int ((n : Int) + 1)) := rfl
      have ltx : ltD (.int (form : Int)) (.int 3) = some (.bl true) := by
        show some (D.bl (decide ((form : Int) < 3))) = _
        rw [decide_eq_true hz]
      have if_ : sIf (tst (bin ltD (nm 4) (cst (.int 3)))) (sRet (bin addD (bin addD (slc (nm 1) (pn) (pso (nm 3))) (dsp .tup (acons (callD g3 (acons (nm 0) (acons (bin ixD (nm 1) (nm 3)) (anil)))) (anil)))) (slc (nm 1) (pso (bin addD (nm 3) (cst (.int 1)))) (pn)))) (sNil) [.lst true [.int a3, .int b3, .int c3], .tup ds, odd, .int (n : Int), .int (form : Int), .un] = .rt (.tup G) [.lst true [.int a4, .int b4, .int c4], .tup ds, odd, .int (n : Int), .int (form : Int), .un] := by
        simp [sIf, sRet, onE, onT, tst, Rz.bind, nm_eq, cst, bin, dsp, acons, anil, callD, okA_nil, okA_val, okA_slot, lendD, wbD, Hdl.get, valsOf, D.nks, D.nk, D.pl, D.pls, D.frz, D.frzs, slc, pn, pso, ltx, ai, k1, k4, ix, h4, ad1, ad2, ed.frz, en.nk, en.un]
      exact if_
    exact (nk0_ok (d := .tup (ds.take n ++ [d] ++ ds.drop (n + 1))) rfl (by simp [D.nks, D.nk, nr]) hb (gds_nk gR) (by simp [outD, fx_law_yv_bent, nkU, D.nk, D.nks, nr])).trans (by simp [outD, fx_law_yv_bent])
  · obtain ⟨i, hi, hi6⟩ : ∃ i, form = i + 3 ∧ i < 6 := ⟨form - 3, by omega, by omega⟩
    have L6 : (bentL ds n odd).length = 6 := rfl
    refine ⟨(bentL ds n odd)[i], List.getElem_mem _, fun gdd => ?_⟩
    have ed := gd_ok gdd
    have p1 : D.pls [odd] = true := by simp [D.pls, e.pl]
    have g1' : gds (ds.take n ++ [odd]) = true := by rw [gds_append, gt n]; simp [gds, ho]
    have A0a := add_tup (gds_pl (gt n)) p1 (by have := lt n; simp; omega)
    have A0 := add_tup (gds_pl g1') (gds_pl (gr (n + 1))) (by have := lt n; have := ld (n + 1); simp only [List.length_append, List.length_singleton]; omega)
    have A1 := add_tup (gds_pl (gt n)) (gds_pl (gr (n + 1))) (by have := lt n; have := ld (n + 1); omega)
    have A2 := add_tup (gds_pl (gt (n + 1))) (gds_pl (gr n)) (by have := lt (n + 1); have := ld n; omega)
    have grr : gds (ds.drop n).reverse = true := gds_of fun d hd => gds_at (gr n) (List.mem_reverse.mp hd)
    have rv : revD (.tup (ds.drop n)) = some (.tup (ds.drop n).reverse) := by
      show (if D.pls (ds.drop n) then some (D.tup (ds.drop n).reverse) else none) = _
      rw [if_pos (gds_pl (gr n))]
    have A3 := add_tup (gds_pl (gt n)) (gds_pl grr) (by have := lt n; have := ld n; rw [List.length_reverse]; omega)
    have A5 := add_tup pr p1 (by simp; omega)
    have hz : ¬ (form : Int) < 3 := by omega
    have ltx : ltD (.int (form : Int)) (.int 3) = some (.bl false) := by
      show some (D.bl (decide ((form : Int) < 3))) = _
      rw [decide_eq_false hz]
    have sbx : subD (.int (form : Int)) (.int 3) = some (.int (i : Int)) := by
      show some (D.int ((form : Int) - 3)) = _
      congr 2
      omega
    have iB := ix_nat (o := true) (List.getElem?_eq_getElem (show i < (bentL ds n odd).length by omega)) ed.pl
    have ai : addD (.int (n : Int)) (.int 1) = some (.int ((n : Int) + 1)) := rfl
    have li : listD (.tup ds) = some (.lst true ds) := by
      show (if D.pls ds then some (D.lst true ds) else none) = _
      rw [if_pos pr]
    have hb : B_law_yv_bent g1 g2 g3 [.lst true [.int a, .int b, .int c], .tup ds, .un, .un, .un, .un] = .rt (bentL ds n odd)[i] [.lst true [.int a3, .int b3, .int c3], .tup ds, odd, .int (n : Int), .int (form : Int), .lst true (bentL ds n odd)] := by
      unfold B_law_yv_bent
      refine (ss _).trans ?_
      have s4 : ∀ X : SDen, sIf (tst (bin ltD (nm 4) (cst (.int 3)))) X (sNil) [.lst true [.int a3, .int b3, .int c3], .tup ds, odd, .int (n : Int), .int (form : Int), .un] = .nx [.lst true [.int a3, .int b3, .int c3], .tup ds, odd, .int (n : Int), .int (form : Int), .un] := fun X => by
        simp [sIf, sNil, onT, tst, bin, Rz.bind, nm_eq, cst, Hdl.get, ltx]
      refine (sq_nx (s4 _)).trans ?_
      have eB : bentL ds n odd = [.tup (ds.take n ++ [odd] ++ ds.drop (n + 1)), .tup (ds.take n ++ ds.drop (n + 1)), .tup (ds.take (n + 1) ++ ds.drop n)] ++ [.tup (ds.take n ++ (ds.drop n).reverse), .lst false ds, .tup (ds ++ [odd])] := rfl
      refine (sq_nx (τ1 := [.lst true [.int a3, .int b3, .int c3], .tup ds, odd, .int (n : Int), .int (form : Int), .lst true [.tup (ds.take n ++ [odd] ++ ds.drop (n + 1)), .tup (ds.take n ++ ds.drop (n + 1)), .tup (ds.take (n + 1) ++ ds.drop n)]]) ?_).trans ?_
      · generalize ds.take n ++ [odd] ++ ds.drop (n + 1) = G0 at *
        generalize ds.take n ++ [odd] = G0a at *
        generalize ds.take n ++ ds.drop (n + 1) = G1 at *
        generalize ds.take (n + 1) ++ ds.drop n = G2 at *
        generalize ds.take n = T0 at *
        generalize ds.take (n + 1) = T1 at *
        generalize ds.drop n = V0 at *
        generalize ds.drop (n + 1) = V1 at *
        simp [sSet, onE, Rz.bind, nm_eq, vl_eq, cst, bin, dsp, acons, anil, Hdl.get, valsOf, D.frz, slc, pn, pso, ai, k1, k2, k3, k4, A0a, A0, A1, A2, e.frz, e.un]
      refine (sq_nx (τ1 := [.lst true [.int a3, .int b3, .int c3], .tup ds, odd, .int (n : Int), .int (form : Int), .lst true (bentL ds n odd)]) ?_).trans ?_
      · rw [eB]
        generalize ds.take n ++ (ds.drop n).reverse = G3 at *
        generalize ds ++ [odd] = G5 at *
        generalize hL3 : [D.tup (ds.take n ++ [odd] ++ ds.drop (n + 1)), D.tup (ds.take n ++ ds.drop (n + 1)), D.tup (ds.take (n + 1) ++ ds.drop n)] = L3 at *
        have l3 : L3.length + 3 ≤ 100000 := by rw [← hL3]; simp
        generalize ds.take n = T0 at *
        generalize ds.drop n = V0 at *
        simp [sExpr, onE, Rz.bind, nm_eq, vl_eq, cst, bin, uno, dsp, acons, anil, fz, Hdl.get, valsOf, D.frz, slc, pn, pso, mtD, runL, extL, ai, k1, k3, rv, A3, A5, li, fr, e.frz, e.un, l3]
      · simp [sRet, onE, Rz.bind, nm_eq, cst, bin, uno, Hdl.get, sbx, iB]
        rfl
    exact (nk0_ok (d := (bentL ds n odd)[i]) rfl (by simp [D.nks, D.nk, nr]) hb ed.nk (by simp [outD, fx_law_yv_bent, nkU, D.nk, D.nks, nr])).trans (by simp [outD, fx_law_yv_bent])
theorem bent_any : ∀ (f k : Nat) {x j : D} {m : Nat}, k < f → Sh k x → k ≤ 60 → sz x ≤ 400 → Jar m j → m + 3 * (k + 1) < 800000 → ∃ d j', Sh (k + 1) d ∧ sz d ≤ 2 * sz x + 2 ∧ Jar (m + 3 * (k + 1)) j' ∧ D_law_yv_bent f [j, x] = .ok d [j', x]
  | 0, k, x, j, m, h, _, _, _, _, _ => by omega
  | f + 1, k, x, j, m, h, sx, hk, hz, hj, hm => by
    obtain ⟨odd, j1, ho, hj1, e1⟩ := one_any (o := false) (xs := oddL) hj (by omega) (by simp [oddL]) (by simp [oddL]) odd_gds
    obtain ⟨so, zo⟩ := odd_sh ho
    obtain ⟨a0, b0, c0, rfl⟩ := jar_shape hj
    have pz := sz_pos x
    by_cases hx : ∃ ds, x = .tup ds ∧ ds ≠ []
    · obtain ⟨ds, rfl, h0⟩ := hx
      have lp := List.length_pos_iff.mpr h0
      have ll := szs_len ds
      have hz' : szs ds + 1 ≤ 400 := by simpa [sz] using hz
      obtain ⟨n, j2, hn, hj2, e2⟩ := take_nat (n := ds.length) hj1 (by omega) lp (by omega)
      obtain ⟨form, j3, hf, hj3, e3⟩ := take_nat (n := 9) hj2 (by omega) (by omega) (by omega)
      obtain ⟨a1, b1, c1, rfl⟩ := jar_shape hj1
      obtain ⟨a2, b2, c2, rfl⟩ := jar_shape hj2
      obtain ⟨a3, b3, c3, rfl⟩ := jar_shape hj3
      have un := eq_unit sx (by omega)
      have ne : ds.isEmpty = false := by cases ds <;> first | rfl | exact absurd rfl h0
      rw [ne] at un
      obtain ⟨k', rfl, hit⟩ := Sh.items sx
      obtain ⟨q1, q2⟩ := o_bent (g1 := d_law_one) (g2 := d_law_take) (g3 := D_law_yv_bent f) so.gd sx.gd un (by omega) hn hf e1 e2 e3
      by_cases h3 : form < 3
      · have hdn := List.getElem_mem hn
        have szn : sz ds[n] + szs (ds.take n) + szs (ds.drop (n + 1)) = szs ds := by
          have := szs_take ds n
          rw [List.drop_eq_getElem_cons hn] at this
          simp only [szs] at this
          omega
        obtain ⟨d, j4, sd, zd, hj4, e4⟩ := bent_any f k' (x := ds[n]) (by omega) (hit _ hdn) (by omega) (by omega) hj3 (by omega)
        obtain ⟨a4, b4, c4, rfl⟩ := jar_shape hj4
        have := q1 h3 d a4 b4 c4 sd.gd e4
        refine ⟨_, _, Sh.tup fun y hy => ?_, ?_, hj4.mono (by omega), this⟩
        · rcases List.mem_append.mp hy with hy | hy
          · rcases List.mem_append.mp hy with hy | hy
            · exact (hit y (List.mem_of_mem_take hy)).mono (by omega)
            · rw [List.mem_singleton.mp hy]; exact sd
          · exact (hit y (List.mem_of_mem_drop hy)).mono (by omega)
        · simp only [sz, szs_append, szs]; omega
      · obtain ⟨d, hd, q⟩ := q2 (by omega)
        obtain ⟨sd, zd⟩ := bentL_ok hit so zo hd
        exact ⟨d, _, sd, zd, hj3.mono (by omega), q sd.gd⟩
    · obtain ⟨a1, b1, c1, rfl⟩ := jar_shape hj1
      refine ⟨odd, _, so.mono (by omega), by omega, hj1.mono (by omega), o_bent_odd (g1 := d_law_one) (g2 := d_law_take) (g3 := D_law_yv_bent f) so.gd sx.gd ?_ e1⟩
      by_cases ht : ∃ ds, x = .tup ds
      · obtain ⟨ds, rfl⟩ := ht
        have : ds = [] := Classical.byContradiction fun z => hx ⟨ds, rfl, z⟩
        subst this
        exact .inl ⟨[], rfl, eq_unit sx (by omega)⟩
      · exact .inr (not_tup sx.gd ht)
end Law
end

section
set_option Elab.async false
set_option linter.all false
set_option maxRecDepth 100000
set_option maxHeartbeats 4000000
namespace Law
open Y
/-! ### sizes -/
theorem szs_le {R : List D} {k : Nat} (h : ∀ r ∈ R, sz r ≤ k) : szs R ≤ k * R.length := by
  induction R with
  | nil => simp [szs]
  | cons r R ih =>
    have h1 := h r List.mem_cons_self
    have h2 := ih fun x hx => h x (List.mem_cons_of_mem _ hx)
    rw [List.length_cons, Nat.mul_succ]
    simp only [szs]
    omega
/-! ### tells -/
theorem tells_ok {d : D} (hd : gd d = true) (hz : sz (Ans.told d).D ≤ 900) : d_law_c2_tells [.tok d, d] = .ok (.bl true) [.tok d, d] := by
  have e := gd_ok hd
  have h1 := heard_tok hd
  have h2 := same_refl (d := (Ans.told d).D) (Ans.gd (a := .told d) hd) hz
  simp only [Ans.D] at h1 h2
  have o : ∀ g1 g2 : List D → Rt, g1 [.tok d] = .ok (.tup [.str "told", d]) [.tok d] → g2 [.tup [.str "told", d], .tup [.str "told", d]] = .ok (.bl true) [.tup [.str "told", d], .tup [.str "told", d]] → fnD 2 2 fx_law_c2_tells (B_law_c2_tells g1 g2) [.tok d, d] = .ok (.bl true) [.tok d, d] := fun g1 g2 c1 c2 => by
    simp [B_law_c2_tells, fx_law_c2_tells, nk0, fnD, outD, sq, ret_eq, retS, sIf, sNil, sExpr, sSet, sPar, sPar3, sAsg, sSto, putAt, onE, onT, andV, orV, notV, andT, orT, notT, ifE, tst, Rz.bind, nm_eq, vl_eq, cst, bin, uno, chn, dsp, acons, anil, callD, okA_nil, okA_val, okA_slot, lendD, wbD, runL, mtD, appL, extL, popL, Hdl.get, valsOf, D.nks, D.nk, D.pl, D.pls, D.frz, D.frzs, isiD, isiB, iop, iopC, ltD, leD, gtD, geD, addD, subD, mulD, modD, fdivD, negD, modC, isND, notND, isNB, gN, gT, gU, gC, gNo, lamD, frzAll_nil, frzAll_cons, cloOf, onlyD, fz, astar, sRaise, c1, c2, e.un, e.pl, e.nk, e.frz]
  exact o _ _ h1 h2
/-- a call as a lambda, told what is owed -/
theorem lam_tells {fb o : Den Hdl} {cap : List Nat} {τ τ2 : List D} {d : D} {h2 : Hdl} (hd : gd d = true) (hz : sz (Ans.told d).D ≤ 900) (h1 : frzAll cap τ = some τ) (hb : Says (fb (onlyD cap 0 τ)) (.told d)) (ho : o τ = .ok h2 τ2) (hg : h2.get τ2 = d) :
    lamD d_law_c2_tells fb cap (acons o anil) τ = .ok (.val (.bl true)) τ2 := by
  have e := gd_ok hd
  have hc : cloOf fb cap τ = some (.tok d) := by
    unfold cloOf
    cases q : fb (onlyD cap 0 τ) with
    | bad => rw [q] at hb; exact hb.elim
    | ex c d τ2 => rw [q] at hb; cases hb
    | ok h τ2 =>
      rw [q] at hb
      cases h with
      | slot i => exact hb.elim
      | val d =>
        cases hb
        show (if d.nk = true then _ else _) = _
        rw [if_pos e.nk]
  have ht := tells_ok hd hz
  have hgs : gds [d] = true := by rw [gds_cons, hd]; rfl
  have nn := gds_nk hgs
  cases h2 with
  | val x =>
    have hg : x = d := hg
    subst hg
    simp [lamD, h1, hc, acons, anil, Rz.bind, ho, okA_nil, okA_val, Hdl.get, ht, nn, D.nk, e.nku, wbD, lendD]
  | slot i =>
    have hu : τ2[i]?.getD .un = d := hg
    have hs : τ2[i]? = some d := by
      cases hc : τ2[i]? with
      | none =>
        rw [hc] at hu
        have hu : D.un = d := hu
        subst hu
        cases hd
      | some y =>
        rw [hc] at hu
        have hu : y = d := hu
        rw [hu]
    simp [lamD, h1, hc, acons, anil, Rz.bind, ho, okA_nil, okA_slot, Hdl.get, ht, nn, D.nk, e.nku, wbD, lendD, hs, e.un, e.pl]
theorem not_t {f : Den Hdl} {τ τ1 : List D} (h : f τ = .ok (.val (.bl true)) τ1) : notT (tst f) τ = .ok false τ1 := by
  simp [notT, tst, Rz.bind, h, Hdl.get]
theorem not_if {f : Den Hdl} {τ τ1 : List D} {p q : SDen} (h : f τ = .ok (.val (.bl true)) τ1) : sIf (notT (tst f)) p q τ = q τ1 := if_f (not_t h)
theorem and_t {p q : Den Bool} {τ τ1 : List D} (h : p τ = .ok true τ1) : andT p q τ = q τ1 := by
  unfold andT
  rw [h]
  rfl
theorem and_f {p q : Den Bool} {τ τ1 : List D} (h : p τ = .ok false τ1) : andT p q τ = .ok false τ1 := by
  unfold andT
  rw [h]
  rfl
theorem mem_errs (s : PySem.Str) (h : decide (s ∈ errs) = true) : s ∈ errs := of_decide_eq_true h
theorem or_f {p q : Den Bool} {τ τ1 : List D} (h : p τ = .ok false τ1) : orT p q τ = q τ1 := by
  unfold orT
  rw [h]
  rfl
theorem or_t {p q : Den Bool} {τ τ1 : List D} (h : p τ = .ok true τ1) : orT p q τ = .ok true τ1 := by
  unfold orT
  rw [h]
  rfl
theorem slot_get {τ : List D} {i : Nat} {d : D} (hd : gd d = true) (hg : (Hdl.slot i).get τ = d) : τ[i]? = some d := by
  have hu : τ[i]?.getD .un = d := hg
  cases hc : τ[i]? with
  | none =>
    rw [hc] at hu
    have hu : D.un = d := hu
    subst hu
    cases hd
  | some y =>
    rw [hc] at hu
    have hu : y = d := hu
    rw [hu]
/-- what is owed is heard -/
theorem same_is {a o : Den Hdl} {τ τ1 τ2 : List D} {d : D} {h1 h2 : Hdl} (hd : gd d = true) (hz : sz d ≤ 900) (ha : a τ = .ok h1 τ1) (ho : o τ1 = .ok h2 τ2) (g1 : h1.get τ2 = d) (g2 : h2.get τ2 = d) : callD d_law_yv_same (acons a (acons o anil)) τ = .ok (.val (.bl true)) τ2 := by
  have e := gd_ok hd
  have c := same_refl hd hz
  cases h1 with
  | val x =>
    have g1 : x = d := g1
    subst g1
    cases h2 with
    | val y =>
      have g2 : y = x := g2
      subst g2
      simp [callD, acons, anil, Rz.bind, ha, ho, okA_nil, okA_val, Hdl.get, c, wbD, lendD]
    | slot i =>
      have hs := slot_get hd g2
      simp [callD, acons, anil, Rz.bind, ha, ho, okA_nil, okA_val, okA_slot, Hdl.get, c, wbD, lendD, hs, e.un, e.pl]
  | slot k =>
    have hk := slot_get hd g1
    cases h2 with
    | val y =>
      have g2 : y = d := g2
      subst g2
      simp [callD, acons, anil, Rz.bind, ha, ho, okA_nil, okA_val, okA_slot, Hdl.get, c, wbD, lendD, hk, e.un, e.pl]
    | slot i =>
      have hs := slot_get hd g2
      simp [callD, acons, anil, Rz.bind, ha, ho, okA_nil, okA_slot, Hdl.get, c, wbD, lendD, hk, hs, e.un, e.pl]
end Law
end

section
set_option Elab.async false
set_option linter.all false
set_option maxRecDepth 100000
set_option maxHeartbeats 4000000
namespace Law
open Y Num
/-! ### forms -/
theorem mBP : ("BadPoly" : PySem.Str) ∈ errs := mem_errs _ (by decide)
theorem mBR : ("BadResidue" : PySem.Str) ∈ errs := mem_errs _ (by decide)
theorem mZ : ("Zero" : PySem.Str) ∈ errs := mem_errs _ (by decide)
abbrev fB : SDen := (sq (sSet 6 (callD d_law_c2_fault (acons (nm 5) (anil)))) (sq (sSet 7 (lamD d_law_c2_heard (callD d_made_poly (acons (nm 5) (anil))) [5] (anil))) (sq (sIf (notT (tst (callD d_law_yv_same (acons (nm 7) (acons (ifE (tst (bin isND (nm 6) (cst .non))) (dsp .tup (acons (cst (.str "told")) (acons (vl 5) (anil)))) (dsp .tup (acons (cst (.str "BadPoly")) (acons (vl 6) (anil))))) (anil)))))) (sRet (cst (.bl false))) (sNil)) (sIf (andT (tst (bin notND (nm 6) (cst .non))) (notT (tst (callD d_law_yv_same (acons (lamD d_law_c2_heard (callD d_value (acons (nm 5) (acons (cst .non) (anil)))) [5] (anil)) (acons (dsp .tup (acons (cst (.str "BadPoly")) (acons (vl 6) (anil)))) (anil))))))) (sRet (cst (.bl false))) (sNil)))))
theorem faultF_sz (x : D) : sz (faultF x) = 1 := by
  unfold faultF
  split
  · split
    · rfl
    · split <;> rfl
  · rfl
theorem form_body {j x t2 s3 s4 d s6 s7 : D} (hd : gd d = true) (hz : sz d ≤ 890) : ∃ s6' s7', fB [j, x, t2, s3, s4, d, s6, s7] = .nx [j, x, t2, s3, s4, d, s6', s7'] := by
  have e := gd_ok hd
  have ef := gd_ok (faultF_gd d)
  have e1 := own_fault_any hd
  have s1 : sSet 6 (callD d_law_c2_fault (acons (nm 5) (anil))) [j, x, t2, s3, s4, d, s6, s7] = .nx [j, x, t2, s3, s4, d, faultF d, s7] := by
    have o : ∀ g : List D → Rt, g [d] = .ok (faultF d) [d] → sSet 6 (callD g (acons (nm 5) (anil))) [j, x, t2, s3, s4, d, s6, s7] = .nx [j, x, t2, s3, s4, d, faultF d, s7] := fun g h => by
      simp [nk0, fnD, outD, sq, ret_eq, retS, sIf, sNil, sExpr, sSet, sPar, sPar3, sAsg, sSto, putAt, onE, onT, andV, orV, notV, andT, orT, notT, ifE, tst, Rz.bind, nm_eq, vl_eq, cst, bin, uno, chn, dsp, acons, anil, callD, okA_nil, okA_val, okA_slot, lendD, wbD, runL, mtD, appL, extL, popL, Hdl.get, valsOf, D.nks, D.nk, D.pl, D.pls, D.frz, D.frzs, isiD, isiB, iop, iopC, ltD, leD, gtD, geD, addD, subD, mulD, modD, fdivD, negD, modC, isND, notND, isNB, gN, gT, gU, gC, gNo, lamD, frzAll_nil, frzAll_cons, cloOf, onlyD, fz, astar, sRaise, h, e.un, e.pl]
    exact o _ e1
  have fr : frzAll [5] [j, x, t2, s3, s4, d, faultF d, s7] = some [j, x, t2, s3, s4, d, faultF d, s7] := by
    simp [frzAll_cons, frzAll_nil, e.un, e.nk, e.frz]
  have fr2 : ∀ A, frzAll [5] [j, x, t2, s3, s4, d, faultF d, A] = some [j, x, t2, s3, s4, d, faultF d, A] := fun A => by
    simp [frzAll_cons, frzAll_nil, e.un, e.nk, e.frz]
  by_cases hf : faultF d = .non
  · have A : (Ans.told d).ok := hd
    have eA := gd_ok (Ans.gd A)
    have m := made_ok hd hf
    rw [hf] at s1 fr
    have l2 := lam_h (fb := callD d_made_poly (acons (nm 5) (anil))) (cap := [5]) A fr (by simp [Says, onlyD, nk0, fnD, outD, sq, ret_eq, retS, sIf, sNil, sExpr, sSet, sPar, sPar3, sAsg, sSto, putAt, onE, onT, andV, orV, notV, andT, orT, notT, ifE, tst, Rz.bind, nm_eq, vl_eq, cst, bin, uno, chn, dsp, acons, anil, callD, okA_nil, okA_val, okA_slot, lendD, wbD, runL, mtD, appL, extL, popL, Hdl.get, valsOf, D.nks, D.nk, D.pl, D.pls, D.frz, D.frzs, isiD, isiB, iop, iopC, ltD, leD, gtD, geD, addD, subD, mulD, modD, fdivD, negD, modC, isND, notND, isNB, gN, gT, gU, gC, gNo, lamD, frzAll_nil, frzAll_cons, cloOf, onlyD, fz, astar, sRaise, e.un, e.pl, e.nk, m])
    have s2 : (sq (sSet 6 (callD d_law_c2_fault (acons (nm 5) (anil)))) (sq (sSet 7 (lamD d_law_c2_heard (callD d_made_poly (acons (nm 5) (anil))) [5] (anil))) (sq (sIf (notT (tst (callD d_law_yv_same (acons (nm 7) (acons (ifE (tst (bin isND (nm 6) (cst .non))) (dsp .tup (acons (cst (.str "told")) (acons (vl 5) (anil)))) (dsp .tup (acons (cst (.str "BadPoly")) (acons (vl 6) (anil))))) (anil)))))) (sRet (cst (.bl false))) (sNil)) (sIf (andT (tst (bin notND (nm 6) (cst .non))) (notT (tst (callD d_law_yv_same (acons (lamD d_law_c2_heard (callD d_value (acons (nm 5) (acons (cst .non) (anil)))) [5] (anil)) (acons (dsp .tup (acons (cst (.str "BadPoly")) (acons (vl 6) (anil)))) (anil))))))) (sRet (cst (.bl false))) (sNil))))) [j, x, t2, s3, s4, d, s6, s7] = _ := (sq_nx s1).trans (sq_nx (set_of l2))
    refine ⟨.non, (Ans.told d).D, s2.trans ?_⟩
    show sq _ _ [j, x, t2, s3, s4, d, .non, (Ans.told d).D] = .nx [j, x, t2, s3, s4, d, .non, (Ans.told d).D]
    refine (sq_nx (τ1 := [j, x, t2, s3, s4, d, .non, (Ans.told d).D]) (not_if (same_is (d := (Ans.told d).D) (Ans.gd A) (by simp only [Ans.D, sz, szs]; omega) (h1 := .slot 7) (τ1 := [j, x, t2, s3, s4, d, .non, (Ans.told d).D]) (h2 := .val (Ans.told d).D) ?_ ?_ rfl rfl))).trans ?_
    · simp [nm_eq, eA.un]
    · simp [nk0, fnD, outD, sq, ret_eq, retS, sIf, sNil, sExpr, sSet, sPar, sPar3, sAsg, sSto, putAt, onE, onT, andV, orV, notV, andT, orT, notT, ifE, tst, Rz.bind, nm_eq, vl_eq, cst, bin, uno, chn, dsp, acons, anil, callD, okA_nil, okA_val, okA_slot, lendD, wbD, runL, mtD, appL, extL, popL, Hdl.get, valsOf, D.nks, D.nk, D.pl, D.pls, D.frz, D.frzs, isiD, isiB, iop, iopC, ltD, leD, gtD, geD, addD, subD, mulD, modD, fdivD, negD, modC, isND, notND, isNB, gN, gT, gU, gC, gNo, lamD, frzAll_nil, frzAll_cons, cloOf, onlyD, fz, astar, sRaise, e.un, e.frz, Ans.D]
    · refine if_f (and_f ?_)
      simp [nk0, fnD, outD, sq, ret_eq, retS, sIf, sNil, sExpr, sSet, sPar, sPar3, sAsg, sSto, putAt, onE, onT, andV, orV, notV, andT, orT, notT, ifE, tst, Rz.bind, nm_eq, vl_eq, cst, bin, uno, chn, dsp, acons, anil, callD, okA_nil, okA_val, okA_slot, lendD, wbD, runL, mtD, appL, extL, popL, Hdl.get, valsOf, D.nks, D.nk, D.pl, D.pls, D.frz, D.frzs, isiD, isiB, iop, iopC, ltD, leD, gtD, geD, addD, subD, mulD, modD, fdivD, negD, modC, isND, notND, isNB, gN, gT, gU, gC, gNo, lamD, frzAll_nil, frzAll_cons, cloOf, onlyD, fz, astar, sRaise]
  · have A : (Ans.ref "BadPoly" (faultF d)).ok := ⟨faultF_gd d, mBP⟩
    have eA := gd_ok (Ans.gd A)
    have m := made_ex hd hf
    have mv := value_bad hd (y := .non) rfl hf
    have zA : sz (Ans.ref "BadPoly" (faultF d)).D ≤ 900 := by simp only [Ans.D, sz, szs, faultF_sz]; omega
    have l2 := lam_h (fb := callD d_made_poly (acons (nm 5) (anil))) (cap := [5]) A fr (by simp [Says, onlyD, nk0, fnD, outD, sq, ret_eq, retS, sIf, sNil, sExpr, sSet, sPar, sPar3, sAsg, sSto, putAt, onE, onT, andV, orV, notV, andT, orT, notT, ifE, tst, Rz.bind, nm_eq, vl_eq, cst, bin, uno, chn, dsp, acons, anil, callD, okA_nil, okA_val, okA_slot, lendD, wbD, runL, mtD, appL, extL, popL, Hdl.get, valsOf, D.nks, D.nk, D.pl, D.pls, D.frz, D.frzs, isiD, isiB, iop, iopC, ltD, leD, gtD, geD, addD, subD, mulD, modD, fdivD, negD, modC, isND, notND, isNB, gN, gT, gU, gC, gNo, lamD, frzAll_nil, frzAll_cons, cloOf, onlyD, fz, astar, sRaise, e.un, e.pl, e.nk, m])
    have l3 := lam_h (fb := callD d_value (acons (nm 5) (acons (cst .non) (anil)))) (cap := [5]) A (fr2 (Ans.ref "BadPoly" (faultF d)).D) (by simp [Says, onlyD, nk0, fnD, outD, sq, ret_eq, retS, sIf, sNil, sExpr, sSet, sPar, sPar3, sAsg, sSto, putAt, onE, onT, andV, orV, notV, andT, orT, notT, ifE, tst, Rz.bind, nm_eq, vl_eq, cst, bin, uno, chn, dsp, acons, anil, callD, okA_nil, okA_val, okA_slot, lendD, wbD, runL, mtD, appL, extL, popL, Hdl.get, valsOf, D.nks, D.nk, D.pl, D.pls, D.frz, D.frzs, isiD, isiB, iop, iopC, ltD, leD, gtD, geD, addD, subD, mulD, modD, fdivD, negD, modC, isND, notND, isNB, gN, gT, gU, gC, gNo, lamD, frzAll_nil, frzAll_cons, cloOf, onlyD, fz, astar, sRaise, e.un, e.pl, e.nk, mv])
    have isn : isND (faultF d) .non = some (.bl false) := by
      have := faultF_gd d
      cases hc : faultF d <;> first | exact absurd hc hf | (rw [hc] at this; cases this; done) | rfl
    have nisn : notND (faultF d) .non = some (.bl true) := by
      have := faultF_gd d
      cases hc : faultF d <;> first | exact absurd hc hf | (rw [hc] at this; cases this; done) | rfl
    have s2 : (sq (sSet 6 (callD d_law_c2_fault (acons (nm 5) (anil)))) (sq (sSet 7 (lamD d_law_c2_heard (callD d_made_poly (acons (nm 5) (anil))) [5] (anil))) (sq (sIf (notT (tst (callD d_law_yv_same (acons (nm 7) (acons (ifE (tst (bin isND (nm 6) (cst .non))) (dsp .tup (acons (cst (.str "told")) (acons (vl 5) (anil)))) (dsp .tup (acons (cst (.str "BadPoly")) (acons (vl 6) (anil))))) (anil)))))) (sRet (cst (.bl false))) (sNil)) (sIf (andT (tst (bin notND (nm 6) (cst .non))) (notT (tst (callD d_law_yv_same (acons (lamD d_law_c2_heard (callD d_value (acons (nm 5) (acons (cst .non) (anil)))) [5] (anil)) (acons (dsp .tup (acons (cst (.str "BadPoly")) (acons (vl 6) (anil)))) (anil))))))) (sRet (cst (.bl false))) (sNil))))) [j, x, t2, s3, s4, d, s6, s7] = _ := (sq_nx s1).trans (sq_nx (set_of l2))
    refine ⟨faultF d, (Ans.ref "BadPoly" (faultF d)).D, s2.trans ?_⟩
    generalize hW : faultF d = W at *
    show sq _ _ [j, x, t2, s3, s4, d, W, (Ans.ref "BadPoly" W).D] = .nx [j, x, t2, s3, s4, d, W, (Ans.ref "BadPoly" W).D]
    refine (sq_nx (τ1 := [j, x, t2, s3, s4, d, W, (Ans.ref "BadPoly" W).D]) (not_if (same_is (d := (Ans.ref "BadPoly" W).D) (Ans.gd A) zA (h1 := .slot 7) (τ1 := [j, x, t2, s3, s4, d, W, (Ans.ref "BadPoly" W).D]) (h2 := .val (Ans.ref "BadPoly" W).D) ?_ ?_ rfl rfl))).trans ?_
    · simp [nm_eq, eA.un]
    · simp [sRet, onE, ifE, tst, bin, cst, Rz.bind, nm_eq, vl_eq, dsp, acons, anil, valsOf, Hdl.get, isn, ef.un, ef.frz, e.un, e.frz, Ans.D]
    · refine if_f ((and_t (τ1 := [j, x, t2, s3, s4, d, W, (Ans.ref "BadPoly" W).D]) ?_).trans (not_t (same_is (d := (Ans.ref "BadPoly" W).D) (Ans.gd A) zA (h1 := .val (Ans.ref "BadPoly" W).D) (h2 := .val (Ans.ref "BadPoly" W).D) l3 ?_ rfl rfl)))
      · simp [bin, cst, tst, Rz.bind, nm_eq, Hdl.get, nisn, ef.un]
      · simp [bin, cst, Rz.bind, vl_eq, dsp, acons, anil, valsOf, Hdl.get, ef.un, ef.frz, Ans.D]
end Law
end

section
set_option Elab.async false
set_option linter.all false
set_option maxRecDepth 100000
set_option maxHeartbeats 4000000
namespace Law
open Y Num
theorem rep_tup (d : D) (n : Nat) (hp : d.pl = true) (hn : n ≤ 1000) : mulD (.tup [d]) (.int (n : Int)) = some (.tup (List.replicate n d)) := by
  have fl : ∀ n : Nat, (List.replicate n [d]).flatten = List.replicate n d := fun n => by
    induction n with
    | zero => rfl
    | succ n ih => rw [List.replicate_succ, List.flatten_cons, ih, List.replicate_succ]; rfl
  show (if D.pls [d] && decide (-1000000 ≤ (n : Int)) && decide ((n : Int) ≤ 1000) && decide ([d].length ≤ 1000) then some (D.tup (List.replicate (n : Int).toNat [d]).flatten) else none) = _
  rw [Int.toNat_natCast, fl, if_pos]
  simp [D.pls, hp]
  omega
theorem szs_rep (d : D) (n : Nat) : szs (List.replicate n d) = n * sz d := by
  induction n with
  | zero => simp [szs]
  | succ n ih => rw [List.replicate_succ, Nat.succ_mul]; simp only [szs]; omega
theorem gds_rep {d : D} (n : Nat) (h : gd d = true) : gds (List.replicate n d) = true := gds_of fun x hx => by rw [(List.mem_replicate.mp hx).2]; exact h
def Fine (d : D) : Prop := gd d = true ∧ sz d ≤ 400
theorem fine_pt {p : List Int} (h : p.length ≤ 300) : Fine (pt p) := ⟨pt_gd p, by simp only [sz, szs_iL]; omega⟩
theorem pow30 : powD (.int 10) (.int 30) = some (.int 1000000000000000000000000000000) := pow_of (by decide +kernel) (by decide +kernel)
def odd8 : List D := [.int 2147483647, .int (-1), .non, .bl true, .str "1", .tup [.int 1], .lst false [.int 1], .int 1000000000000000000000000000000]
theorem odd8_fine {d : D} (h : d ∈ odd8) : gd d = true ∧ sz d ≤ 2 := by
  simp only [odd8, List.mem_cons, List.not_mem_nil, or_false] at h
  rcases h with rfl | rfl | rfl | rfl | rfl | rfl | rfl | rfl <;> exact ⟨rfl, by simp [sz, szs]⟩
abbrev fA (g_law_take : List D → Rt) : SDen := (sq (sSet 4 (callD g_law_take (acons (nm 0) (acons (bin addD (uno lenD (nm 1)) (cst (.int 1))) (anil))))) (sExpr (mtD appL 2 (acons (bin addD (bin addD (slc (nm 1) (pn) (pso (nm 4))) (dsp .tup (acons (vl 3) (anil)))) (slc (nm 1) (pso (nm 4)) (pn))) (anil)))))
theorem add_body {p : List Int} {L : List D} {d s4 : D} {j : D} {m : Nat} (hj : Jar m j) (hm : m < 800000) (hp : p.length ≤ 40) (hd : gd d = true) (hz : sz d ≤ 2) (hL : ∀ d ∈ L, Fine d) (hl : L.length ≤ 100) :
    ∃ j' L' s4', fA d_law_take [j, pt p, .lst true L, d, s4, .un, .un, .un] = .nx [j', pt p, .lst true L', d, s4', .un, .un, .un] ∧ (∀ d ∈ L', Fine d) ∧ L'.length = L.length + 1 ∧ Jar (m + 1) j' := by
  obtain ⟨n, j1, hn, hj1, e1⟩ := take_nat (n := p.length + 1) hj (by omega) (by omega) (by omega)
  obtain ⟨a0, b0, c0, rfl⟩ := jar_shape hj
  obtain ⟨a1, b1, c1, rfl⟩ := jar_shape hj1
  have e := gd_ok hd
  have pl := iL_pl p
  have lp := iL_len p
  have k1 := slc_to n pl
  have k2 := slc_from (k := n) pl (by omega)
  have gt : gds ((iL p).take n) = true := gds_of fun d hd => gds_at (iL_gds p) (List.mem_of_mem_take hd)
  have gr : gds ((iL p).drop n) = true := gds_of fun d hd => gds_at (iL_gds p) (List.mem_of_mem_drop hd)
  have gd1 : gds [d] = true := by simp [gds, hd]
  have gg : gds ((iL p).take n ++ [d]) = true := by rw [gds_append, gt, gd1]; rfl
  have lt : ((iL p).take n).length ≤ 40 := by rw [List.length_take]; omega
  have ld : ((iL p).drop n).length ≤ 40 := by rw [List.length_drop]; omega
  have ad1 := add_tup (gds_pl gt) (gds_pl gd1) (by simp; omega)
  have ad2 := add_tup (gds_pl gg) (gds_pl gr) (by simp only [List.length_append, List.length_singleton]; omega)
  have hc : ((p.length + 1 : Nat) : Int) = (p.length : Int) + 1 := by omega
  rw [hc] at e1
  refine ⟨.lst true [.int a1, .int b1, .int c1], L ++ [.tup ((iL p).take n ++ [d] ++ (iL p).drop n)], .int (n : Int), ?_, fun x hx => ?_, by simp, hj1⟩
  · have o : ∀ g : List D → Rt, g [.lst true [.int a0, .int b0, .int c0], .int ((p.length : Int) + 1)] = .ok (.int (n : Int)) [.lst true [.int a1, .int b1, .int c1], .int ((p.length : Int) + 1)] → fA g [.lst true [.int a0, .int b0, .int c0], pt p, .lst true L, d, s4, .un, .un, .un] = .nx [.lst true [.int a1, .int b1, .int c1], pt p, .lst true (L ++ [.tup ((iL p).take n ++ [d] ++ (iL p).drop n)]), d, .int (n : Int), .un, .un, .un] := fun g h => by
      refine (sq_nx (τ1 := [.lst true [.int a1, .int b1, .int c1], pt p, .lst true L, d, .int (n : Int), .un, .un, .un]) ?_).trans ?_
      · simp [nk0, fnD, outD, sq, ret_eq, retS, sIf, sNil, sExpr, sSet, sPar, sPar3, sAsg, sSto, putAt, onE, onT, andV, orV, notV, andT, orT, notT, ifE, tst, Rz.bind, nm_eq, vl_eq, cst, bin, uno, chn, dsp, acons, anil, callD, okA_nil, okA_val, okA_slot, lendD, wbD, runL, mtD, appL, extL, popL, Hdl.get, valsOf, D.nks, D.nk, D.pl, D.pls, D.frz, D.frzs, isiD, isiB, iop, iopC, ltD, leD, gtD, geD, addD, subD, mulD, modD, fdivD, negD, modC, isND, notND, isNB, gN, gT, gU, gC, gNo, lamD, frzAll_nil, frzAll_cons, cloOf, onlyD, fz, astar, sRaise, lenD, lp, h]
      · have lL : L.length < 100000 := by omega
        generalize (iL p).take n ++ [d] ++ (iL p).drop n = G at *
        generalize (iL p).take n ++ [d] = G1 at *
        generalize (iL p).take n = T at *
        generalize (iL p).drop n = V at *
        simp [sExpr, onE, Rz.bind, nm_eq, vl_eq, cst, bin, uno, dsp, acons, anil, Hdl.get, valsOf, D.frz, slc, pn, pso, mtD, runL, appL, k1, k2, ad1, ad2, e.frz, e.un, lL]
    exact o d_law_take e1
  · rcases List.mem_append.mp hx with hx | hx
    · exact hL x hx
    · rw [List.mem_singleton.mp hx]
      refine ⟨?_, ?_⟩
      · show gds _ = true
        rw [gds_append, gg, gr]
        rfl
      · have := szs_take (iL p) n
        rw [szs_iL] at this
        simp only [sz, szs_append, szs]
        omega
theorem forms_right {p : List Int} {j : D} {m : Nat} (hp : Res p) (hl : p.length ≤ 40) (hj : Jar m j) (hm : m < 700000) : ∃ j', Jar (m + 60) j' ∧ d_law_c2_forms_right [j, pt p] = .ok (.bl true) [j', pt p] := by
  have pl := iL_pl p
  have nk := iL_nk p
  have lp := iL_len p
  have fr := iL_frz p
  have sp := pt_sh p
  have zp : sz (pt p) ≤ 41 := by simp only [sz, szs_iL]; omega
  -- the loop that adds
  have X3 : mulD (pt p) (.int 3) = some (.tup (List.replicate 3 (iL p)).flatten) := by
    show (if D.pls (iL p) && decide (-1000000 ≤ (3 : Int)) && decide ((3 : Int) ≤ 1000) && decide ((iL p).length ≤ 1000) then some (D.tup (List.replicate (3 : Int).toNat (iL p)).flatten) else none) = _
    rw [pl, iL_len, decide_eq_true (show p.length ≤ 1000 by omega)]
    rfl
  have f3 : Fine (.tup (List.replicate 3 (iL p)).flatten) := by
    have e : (List.replicate 3 (iL p)).flatten = iL p ++ (iL p ++ (iL p ++ [])) := rfl
    rw [e]
    refine ⟨?_, ?_⟩
    · show gds _ = true
      simp [gds_append, iL_gds]
      all_goals rfl
    · simp only [sz, szs_append, szs_iL, szs]; omega
  have z40 : mulD (.tup [.int 0]) (.int 40) = some (pt (List.replicate 40 0)) := zeros_tup 40 (by omega)
  have z41 : mulD (.tup [.int 0]) (.int 41) = some (pt (List.replicate 41 0)) := zeros_tup 41 (by omega)
  have n41 : mulD (.tup [.non]) (.int 41) = some (.tup (List.replicate 41 .non)) := rep_tup .non 41 rfl (by omega)
  have fn : Fine (.tup (List.replicate 41 .non)) := ⟨gds_rep 41 rfl, by simp only [sz, szs_rep]; omega⟩
  have ad0 : addD (pt p) (.tup [.int 0]) = some (pt (p ++ [0])) := addT_any (q := [0]) (by simp; omega)
  obtain ⟨L0, hL0⟩ : ∃ L0 : List D, L0 = [pt p, .lst false (iL p), .non, .int 0, .str "poly", .tup [pt p], pt (p ++ [0]), .tup (List.replicate 3 (iL p)).flatten, pt (List.replicate 40 0), pt (List.replicate 41 0), .tup (List.replicate 41 .non)] := ⟨_, rfl⟩
  have F0 : ∀ d ∈ L0, Fine d := fun d hd => by
    rw [hL0] at hd
    simp only [List.mem_cons, List.not_mem_nil, or_false] at hd
    rcases hd with rfl | rfl | rfl | rfl | rfl | rfl | rfl | rfl | rfl | rfl | rfl
    · exact fine_pt (by omega)
    · exact ⟨iL_gds p, by simp only [sz, szs_iL]; omega⟩
    · exact ⟨rfl, by simp [sz]⟩
    · exact ⟨rfl, by simp [sz]⟩
    · exact ⟨rfl, by simp [sz]⟩
    · exact ⟨by show gds [pt p] = true; rw [gds_cons, pt_gd]; rfl, by simp only [sz, szs, szs_iL]; omega⟩
    · exact fine_pt (by simp; omega)
    · exact f3
    · exact fine_pt (by simp)
    · exact fine_pt (by simp)
    · exact fn
  have l0 : L0.length = 11 := by rw [hL0]; rfl
  have st1 : (sSet 2 (dsp (.lst true) (acons (vl 1) (acons (fz (uno listD (nm 1))) (acons (cst .non) (acons (cst (.int 0)) (acons (cst (.str "poly")) (acons (dsp .tup (acons (vl 1) (anil))) (acons (bin addD (nm 1) (dsp .tup (acons (cst (.int 0)) (anil)))) (acons (bin mulD (nm 1) (cst (.int 3))) (acons (bin mulD (dsp .tup (acons (cst (.int 0)) (anil))) (cst (.int 40))) (acons (bin mulD (dsp .tup (acons (cst (.int 0)) (anil))) (cst (.int 41))) (acons (bin mulD (dsp .tup (acons (cst .non) (anil))) (cst (.int 41))) (anil)))))))))))))) [j, pt p, .un, .un, .un, .un, .un, .un] = .nx [j, pt p, .lst true L0, .un, .un, .un, .un, .un] := by
    rw [hL0]
    generalize (List.replicate 3 (iL p)).flatten = G3 at *
    generalize List.replicate 41 D.non = GN at *
    have li : listD (pt p) = some (.lst true (iL p)) := by
      show (if D.pls (iL p) then some (D.lst true (iL p)) else none) = _
      rw [if_pos pl]
    simp [sSet, onE, Rz.bind, nm_eq, vl_eq, cst, bin, uno, dsp, acons, anil, fz, Hdl.get, valsOf, D.frz, X3, z40, z41, n41, ad0, li, fr]
  obtain ⟨τ1, e2, j1, L1, s3, s4, rfl, F1, l1, hj1⟩ := forL_inv (g := gN 3) (p := fA d_law_take) (ds := odd8) (τ := [j, pt p, .lst true L0, .un, .un, .un, .un, .un])
    (fun k τ => ∃ j' L s3 s4, τ = [j', pt p, .lst true L, s3, s4, .un, .un, .un] ∧ (∀ d ∈ L, Fine d) ∧ L.length = 11 + k ∧ Jar (m + k) j') (fun k d τ hd hI => by
      obtain ⟨j', L, s3, s4, rfl, h1, h2, h3⟩ := hI
      have hk : k < 8 := (List.getElem?_eq_some_iff.mp hd).1
      obtain ⟨g1, g2⟩ := odd8_fine (List.mem_of_getElem? hd)
      obtain ⟨j2, L2, s4', q1, q2, q3, q4⟩ := add_body (s4 := s4) h3 (by omega) hl g1 g2 h1 (by omega)
      exact ⟨_, _, rfl, .inl q1, j2, L2, _, _, rfl, q2, by omega, q4⟩) ⟨j, L0, _, _, rfl, F0, by omega, hj⟩
  have l1 : L1.length = 19 := l1
  have hj1 : Jar (m + 8) j1 := hj1
  have st2 : (sFor (seqS (dsp (.lst true) (acons (cst (.int 2147483647)) (acons (uno negD (cst (.int 1))) (acons (cst .non) (acons (cst (.bl true)) (acons (cst (.str "1")) (acons (dsp .tup (acons (cst (.int 1)) (anil))) (acons (fz (dsp (.lst true) (acons (cst (.int 1)) (anil)))) (acons (bin powD (cst (.int 10)) (cst (.int 30))) (anil))))))))))) (gN 3) (sq (sSet 4 (callD d_law_take (acons (nm 0) (acons (bin addD (uno lenD (nm 1)) (cst (.int 1))) (anil))))) (sExpr (mtD appL 2 (acons (bin addD (bin addD (slc (nm 1) (pn) (pso (nm 4))) (dsp .tup (acons (vl 3) (anil)))) (slc (nm 1) (pso (nm 4)) (pn))) (anil)))))) [j, pt p, .lst true L0, .un, .un, .un, .un, .un] = .nx [j1, pt p, .lst true L1, s3, s4, .un, .un, .un] := by
    refine (for_of (ds := odd8) (τ1 := [j, pt p, .lst true L0, .un, .un, .un, .un, .un]) ?_).trans e2
    unfold odd8
    simp [seqS, seqOf, Rz.bind, cst, uno, bin, dsp, acons, anil, fz, Hdl.get, valsOf, D.frz, D.frzs, negD, pow30]
  -- what is bent
  obtain ⟨d1, j2, sd1, zd1, hj2, b1⟩ := bent_any 8 1 (x := pt p) (by omega) sp (by omega) (by omega) hj1 (by omega)
  obtain ⟨d2, j3, sd2, zd2, hj3, b2⟩ := bent_any 8 1 (x := pt p) (by omega) sp (by omega) (by omega) hj2 (by omega)
  obtain ⟨d3, j4, sd3, zd3, hj4, b3⟩ := bent_any 8 2 (x := d2) (by omega) sd2 (by omega) (by omega) hj3 (by omega)
  have ad2 : addD (.tup [.non]) (pt p) = some (.tup ([.non] ++ iL p)) := add_tup rfl pl (by rw [lp]; simp; omega)
  have ad3 : addD (.tup ([.non] ++ iL p)) (.tup [.int (-1)]) = some (.tup ([.non] ++ iL p ++ [.int (-1)])) := add_tup (gds_pl (by rw [gds_append, iL_gds]; rfl)) rfl (by simp [lp]; omega)
  obtain ⟨L2, hL2⟩ : ∃ L2 : List D, L2 = L1 ++ [.tup ([.non] ++ iL p ++ [.int (-1)]), d1, d3] := ⟨_, rfl⟩
  have F2 : ∀ d ∈ L2, Fine d := fun d hd => by
    rw [hL2] at hd
    rcases List.mem_append.mp hd with hd | hd
    · exact F1 d hd
    · simp only [List.mem_cons, List.not_mem_nil, or_false] at hd
      rcases hd with rfl | rfl | rfl
      · refine ⟨?_, ?_⟩
        · show gds _ = true
          rw [gds_append, gds_append, iL_gds]
          rfl
        · simp only [sz, szs_append, szs_iL, szs]; omega
      · exact ⟨sd1.gd, by omega⟩
      · exact ⟨sd3.gd, by omega⟩
  have l2 : L2.length = 22 := by rw [hL2]; simp [l1]
  have g2 : gds L2 = true := gds_of fun d hd => (F2 d hd).1
  have st3 : (sExpr (mtD extL 2 (acons (dsp (.lst true) (acons (bin addD (bin addD (dsp .tup (acons (cst .non) (anil))) (nm 1)) (dsp .tup (acons (uno negD (cst (.int 1))) (anil)))) (acons (callD d_law_yv_bent (acons (nm 0) (acons (nm 1) (anil)))) (acons (callD d_law_yv_bent (acons (nm 0) (acons (callD d_law_yv_bent (acons (nm 0) (acons (nm 1) (anil)))) (anil)))) (anil))))) (anil)))) [j1, pt p, .lst true L1, s3, s4, .un, .un, .un] = .nx [j4, pt p, .lst true L2, s3, s4, .un, .un, .un] := by
    obtain ⟨a1, b1', c1, rfl⟩ := jar_shape hj1
    obtain ⟨a2, b2', c2, rfl⟩ := jar_shape hj2
    obtain ⟨a3, b3', c3, rfl⟩ := jar_shape hj3
    obtain ⟨a4, b4', c4, rfl⟩ := jar_shape hj4
    have x2 := gd_ok sd2.gd
    have o : ∀ g : List D → Rt, g [.lst true [.int a1, .int b1', .int c1], pt p] = .ok d1 [.lst true [.int a2, .int b2', .int c2], pt p] → g [.lst true [.int a2, .int b2', .int c2], pt p] = .ok d2 [.lst true [.int a3, .int b3', .int c3], pt p] → g [.lst true [.int a3, .int b3', .int c3], d2] = .ok d3 [.lst true [.int a4, .int b4', .int c4], d2] →
        sExpr (mtD extL 2 (acons (dsp (.lst true) (acons (bin addD (bin addD (dsp .tup (acons (cst .non) (anil))) (nm 1)) (dsp .tup (acons (uno negD (cst (.int 1))) (anil)))) (acons (callD g (acons (nm 0) (acons (nm 1) (anil)))) (acons (callD g (acons (nm 0) (acons (callD g (acons (nm 0) (acons (nm 1) (anil)))) (anil)))) (anil))))) (anil))) [.lst true [.int a1, .int b1', .int c1], pt p, .lst true L1, s3, s4, .un, .un, .un] = .nx [.lst true [.int a4, .int b4', .int c4], pt p, .lst true L2, s3, s4, .un, .un, .un] := fun g h1 h2 h3 => by
      rw [hL2]
      have lL : L1.length + 3 ≤ 100000 := by omega
      generalize hG : [D.non] ++ iL p ++ [D.int (-1)] = G at *
      generalize hG1 : [D.non] ++ iL p = G1 at *
      simp [sExpr, onE, Rz.bind, nm_eq, cst, bin, uno, dsp, acons, anil, callD, okA_nil, okA_val, okA_slot, lendD, wbD, Hdl.get, valsOf, D.pl, D.pls, pl, negD, mtD, runL, extL, ad2, ad3, h1, h2, h3, lL]
    exact o d_law_yv_bent b1 b2 b3
  -- all things
  obtain ⟨τ2, e4, s5, s6, s7, rfl⟩ := forL_inv (g := gN 5) (p := fB) (ds := L2) (τ := [j4, pt p, .lst false L2, s3, s4, .un, .un, .un])
    (fun k τ => ∃ s5 s6 s7, τ = [j4, pt p, .lst false L2, s3, s4, s5, s6, s7]) (fun k d τ hd hI => by
      obtain ⟨s5, s6, s7, rfl⟩ := hI
      obtain ⟨f1, f2⟩ := F2 d (List.mem_of_getElem? hd)
      obtain ⟨s6', s7', q⟩ := form_body (j := j4) (x := pt p) (t2 := .lst false L2) (s3 := s3) (s4 := s4) (s6 := s6) (s7 := s7) f1 (by omega)
      exact ⟨_, _, rfl, .inl q, _, _, _, rfl⟩) ⟨_, _, _, rfl⟩
  have st4 : (sFor (seqS (vl 2)) (gN 5) (sq (sSet 6 (callD d_law_c2_fault (acons (nm 5) (anil)))) (sq (sSet 7 (lamD d_law_c2_heard (callD d_made_poly (acons (nm 5) (anil))) [5] (anil))) (sq (sIf (notT (tst (callD d_law_yv_same (acons (nm 7) (acons (ifE (tst (bin isND (nm 6) (cst .non))) (dsp .tup (acons (cst (.str "told")) (acons (vl 5) (anil)))) (dsp .tup (acons (cst (.str "BadPoly")) (acons (vl 6) (anil))))) (anil)))))) (sRet (cst (.bl false))) (sNil)) (sIf (andT (tst (bin notND (nm 6) (cst .non))) (notT (tst (callD d_law_yv_same (acons (lamD d_law_c2_heard (callD d_value (acons (nm 5) (acons (cst .non) (anil)))) [5] (anil)) (acons (dsp .tup (acons (cst (.str "BadPoly")) (acons (vl 6) (anil)))) (anil))))))) (sRet (cst (.bl false))) (sNil)))))) [j4, pt p, .lst true L2, s3, s4, .un, .un, .un] = .nx [j4, pt p, .lst false L2, s3, s4, s5, s6, s7] := by
    refine (for_of (ds := L2) (τ1 := [j4, pt p, .lst false L2, s3, s4, .un, .un, .un]) ?_).trans e4
    obtain ⟨f2, n2, p2⟩ := gds_tup g2
    simp [seqS, seqOf, Rz.bind, vl_eq, Hdl.get, D.frz, f2, p2]
  have body : b_law_c2_forms_right [j, pt p, .un, .un, .un, .un, .un, .un] = .rt (.bl true) [j4, pt p, .lst false L2, s3, s4, s5, s6, s7] := (sq_nx st1).trans ((sq_nx st2).trans ((sq_nx st3).trans ((sq_nx st4).trans rfl)))
  obtain ⟨a0, b0', c0, rfl⟩ := jar_shape hj
  obtain ⟨a4, b4', c4, rfl⟩ := jar_shape hj4
  exact ⟨_, hj4.mono (by omega), (nk0_ok (d := .bl true) rfl (by simp [D.nks, D.nk, nk]) body rfl (by simp [outD, fx_law_c2_forms_right, nkU, D.nk, D.nks, nk])).trans (by simp [outD, fx_law_c2_forms_right])⟩
end Law
end

section
set_option Elab.async false
set_option linter.all false
set_option maxRecDepth 100000
set_option maxHeartbeats 4000000
namespace Law
open Y Num
theorem ret_of {f : Den Hdl} {τ τ1 : List D} {d : D} (h : f τ = .ok (.val d) τ1) : sRet f τ = .rt d τ1 := by
  simp [sRet, onE, h]
theorem sz_pt {p : List Int} (h : p.length ≤ 400) : sz (Ans.told (pt p)).D ≤ 900 := by simp only [Ans.D, sz, szs, szs_iL]; omega
/-! ### products -/
theorem at_right {p : List Int} {a v : Int} (hp : Res p) (hl : p.length ≤ 40) (ha : isR a) (hv : v = vaL p a) : d_law_c2_at_right [pt p, .int a, .int v] = .ok (.bl true) [pt p, .int a, .int v] := by
  have nk := iL_nk p
  have pl := iL_pl p
  have fr := iL_frz p
  have m := value_ok hp hl ha
  rw [← hv] at m
  have l := lam_tells (fb := callD d_value (acons (nm 0) (acons (nm 1) (anil)))) (o := nm 2) (cap := [0, 1]) (τ := [pt p, .int a, .int v]) (τ2 := [pt p, .int a, .int v]) (d := .int v) (h2 := .slot 2) rfl (by simp [Ans.D, sz, szs]) (by simp [frzAll_cons, frzAll_nil, D.nk, D.frz, nk, fr]) (by simp [Says, onlyD, nk0, fnD, outD, sq, ret_eq, retS, sIf, sNil, sExpr, sSet, sPar, sPar3, sAsg, sSto, putAt, onE, onT, andV, orV, notV, andT, orT, notT, ifE, tst, Rz.bind, nm_eq, vl_eq, cst, bin, uno, chn, dsp, acons, anil, callD, okA_nil, okA_val, okA_slot, lendD, wbD, runL, mtD, appL, extL, popL, Hdl.get, valsOf, D.nks, D.nk, D.pl, D.pls, D.frz, D.frzs, isiD, isiB, iop, iopC, ltD, leD, gtD, geD, addD, subD, mulD, modD, fdivD, negD, modC, isND, notND, isNB, gN, gT, gU, gC, gNo, lamD, frzAll_nil, frzAll_cons, cloOf, onlyD, fz, astar, sRaise, nk, pl, m]) (by simp [nm_eq]) rfl
  exact (nk0_ok (d := .bl true) rfl (by simp [D.nks, D.nk, nk]) (ret_of l) rfl (by simp [outD, fx_law_c2_at_right, nkU, D.nk, nk])).trans (by simp [outD, fx_law_c2_at_right])
theorem other_right {p q : List Int} (hp : Res p) (hl : p.length ≤ 40) (hq : Res q) (hl2 : q.length ≤ 40) : d_law_c2_other_right [pt p, pt q, pt (prL p q)] = .ok (.bl true) [pt p, pt q, pt (prL p q)] := by
  have nk := iL_nk p
  have pl := iL_pl p
  have fr := iL_frz p
  have nq := iL_nk q
  have pq := iL_pl q
  have fq := iL_frz q
  have nB := iL_nk (prL p q)
  have m := times_ok hq hl2 hp hl
  rw [prL_comm q p] at m
  have lB := prL_le p q
  have l := lam_tells (fb := callD d_times (acons (nm 1) (acons (nm 0) (anil)))) (o := nm 2) (cap := [0, 1]) (τ := [pt p, pt q, pt (prL p q)]) (τ2 := [pt p, pt q, pt (prL p q)]) (d := pt (prL p q)) (h2 := .slot 2) (pt_gd _) (sz_pt (by omega)) (by simp [frzAll_cons, frzAll_nil, D.nk, D.frz, nk, fr, nq, fq]) (by simp [Says, onlyD, nk0, fnD, outD, sq, ret_eq, retS, sIf, sNil, sExpr, sSet, sPar, sPar3, sAsg, sSto, putAt, onE, onT, andV, orV, notV, andT, orT, notT, ifE, tst, Rz.bind, nm_eq, vl_eq, cst, bin, uno, chn, dsp, acons, anil, callD, okA_nil, okA_val, okA_slot, lendD, wbD, runL, mtD, appL, extL, popL, Hdl.get, valsOf, D.nks, D.nk, D.pl, D.pls, D.frz, D.frzs, isiD, isiB, iop, iopC, ltD, leD, gtD, geD, addD, subD, mulD, modD, fdivD, negD, modC, isND, notND, isNB, gN, gT, gU, gC, gNo, lamD, frzAll_nil, frzAll_cons, cloOf, onlyD, fz, astar, sRaise, nk, pl, nq, pq, m]) (by simp [nm_eq]) rfl
  exact (nk0_ok (d := .bl true) rfl (by simp [D.nks, D.nk, nk, nq, nB]) (ret_of l) rfl (by simp [outD, fx_law_c2_other_right, nkU, D.nk, nk, nq, nB])).trans (by simp [outD, fx_law_c2_other_right])
abbrev prB : SDen := (sq (sSet 5 (callD d_law_yv_residue (acons (nm 0) (anil)))) (sq (sPar 6 7 (acons (callD d_law_c2_value (acons (nm 1) (acons (nm 5) (anil)))) (acons (callD d_law_c2_value (acons (nm 2) (acons (nm 5) (anil)))) (anil)))) (sq (sIf (orT (notT (tst (lamD d_law_c2_tells (callD d_value (acons (nm 1) (acons (nm 5) (anil)))) [1, 5] (acons (nm 6) (anil))))) (notT (tst (callD d_law_c2_at_right (acons (nm 2) (acons (nm 5) (acons (nm 7) (anil)))))))) (sRet (cst (.bl false))) (sNil)) (sq (sIf (tst (bin neD (callD d_law_c2_value (acons (nm 3) (acons (nm 5) (anil)))) (bin modD (uno intD (bin mulD (nm 6) (nm 7))) (cst (.int 2147483647))))) (sRet (cst (.bl false))) (sNil)) (sIf (andT (tst (bin ltD (uno lenD (nm 3)) (cst (.int 41)))) (notT (tst (callD d_law_c2_at_right (acons (nm 3) (acons (nm 5) (acons (bin modD (uno intD (bin mulD (nm 6) (nm 7))) (cst (.int 2147483647))) (anil)))))))) (sRet (cst (.bl false))) (sNil))))))
theorem prod_body {p q : List Int} {j s4 s5 s6 s7 : D} {m : Nat} (hp : Res p) (hl : p.length ≤ 40) (hq : Res q) (hl2 : q.length ≤ 40) (hj : Jar m j) (hm : m < 700000) : ∃ j' s5' s6' s7', Jar (m + 3) j' ∧ prB [j, pt p, pt q, pt (prL p q), s4, s5, s6, s7] = .nx [j', pt p, pt q, pt (prL p q), s4, s5', s6', s7'] := by
  obtain ⟨a, j1, ha, hj1, e1⟩ := residue_jar hj (by omega)
  obtain ⟨a0, b0, c0, rfl⟩ := jar_shape hj
  obtain ⟨a1, b1, c1, rfl⟩ := jar_shape hj1
  have nk := iL_nk p
  have pl := iL_pl p
  have fr := iL_frz p
  have nq := iL_nk q
  have pq := iL_pl q
  have fq := iL_frz q
  have nB := iL_nk (prL p q)
  have pB := iL_pl (prL p q)
  have lB := iL_len (prL p q)
  have rB := prL_res p q
  have v1 := own_value hp ha
  have v2 := own_value hq ha
  have v3 := own_value rB ha
  have vp := vaL_prod p q a
  have mm := mulR (vaL_res p a) (vaL_res q a)
  have w1 := value_ok hp hl ha
  have w2 := at_right hq hl2 ha rfl
  obtain ⟨f, hf⟩ : ∃ f, f = vaL p a := ⟨_, rfl⟩
  obtain ⟨g, hg⟩ : ∃ g, g = vaL q a := ⟨_, rfl⟩
  obtain ⟨v, hv⟩ : ∃ v, v = vaL (prL p q) a := ⟨_, rfl⟩
  rw [← hv, ← hf, ← hg] at vp
  rw [← hf] at v1 w1
  rw [← hg] at v2 w2
  rw [← hf, ← hg] at mm
  rw [← hv] at v3
  obtain ⟨B, hB⟩ : ∃ B, B = prL p q := ⟨_, rfl⟩
  have w3 : B.length ≤ 40 → d_law_c2_at_right [pt B, .int a, .int v] = .ok (.bl true) [pt B, .int a, .int v] := fun h => at_right (by rw [hB]; exact rB) h ha (by rw [hv, hB])
  rw [← hB] at nB pB lB v3 ⊢
  refine ⟨_, .int a, .int f, .int g, hj1, ?_⟩
  have B1 : ∀ g1 : List D → Rt, g1 [.lst true [.int a0, .int b0, .int c0]] = .ok (.int a) [.lst true [.int a1, .int b1, .int c1]] → sSet 5 (callD g1 (acons (nm 0) (anil))) [.lst true [.int a0, .int b0, .int c0], pt p, pt q, pt B, s4, s5, s6, s7] = .nx [.lst true [.int a1, .int b1, .int c1], pt p, pt q, pt B, s4, .int a, s6, s7] := fun g1 h => by
    simp [nk0, fnD, outD, sq, ret_eq, retS, sIf, sNil, sExpr, sSet, sPar, sPar3, sAsg, sSto, putAt, onE, onT, andV, orV, notV, andT, orT, notT, ifE, tst, Rz.bind, nm_eq, vl_eq, cst, bin, uno, chn, dsp, acons, anil, callD, okA_nil, okA_val, okA_slot, lendD, wbD, runL, mtD, appL, extL, popL, Hdl.get, valsOf, D.nks, D.nk, D.pl, D.pls, D.frz, D.frzs, isiD, isiB, iop, iopC, ltD, leD, gtD, geD, addD, subD, mulD, modD, fdivD, negD, modC, isND, notND, isNB, gN, gT, gU, gC, gNo, lamD, frzAll_nil, frzAll_cons, cloOf, onlyD, fz, astar, sRaise, h]
  have B2 : ∀ g1 : List D → Rt, g1 [pt p, .int a] = .ok (.int f) [pt p, .int a] → g1 [pt q, .int a] = .ok (.int g) [pt q, .int a] → sPar 6 7 (acons (callD g1 (acons (nm 1) (acons (nm 5) (anil)))) (acons (callD g1 (acons (nm 2) (acons (nm 5) (anil)))) (anil))) [.lst true [.int a1, .int b1, .int c1], pt p, pt q, pt B, s4, .int a, s6, s7] = .nx [.lst true [.int a1, .int b1, .int c1], pt p, pt q, pt B, s4, .int a, .int f, .int g] := fun g1 h1 h2 => by
    simp [nk0, fnD, outD, sq, ret_eq, retS, sIf, sNil, sExpr, sSet, sPar, sPar3, sAsg, sSto, putAt, onE, onT, andV, orV, notV, andT, orT, notT, ifE, tst, Rz.bind, nm_eq, vl_eq, cst, bin, uno, chn, dsp, acons, anil, callD, okA_nil, okA_val, okA_slot, lendD, wbD, runL, mtD, appL, extL, popL, Hdl.get, valsOf, D.nks, D.nk, D.pl, D.pls, D.frz, D.frzs, isiD, isiB, iop, iopC, ltD, leD, gtD, geD, addD, subD, mulD, modD, fdivD, negD, modC, isND, notND, isNB, gN, gT, gU, gC, gNo, lamD, frzAll_nil, frzAll_cons, cloOf, onlyD, fz, astar, sRaise, h1, h2, pl, pq]
  have l3 := lam_tells (fb := callD d_value (acons (nm 1) (acons (nm 5) (anil)))) (o := nm 6) (cap := [1, 5]) (τ := [.lst true [.int a1, .int b1, .int c1], pt p, pt q, pt B, s4, .int a, .int f, .int g]) (τ2 := [.lst true [.int a1, .int b1, .int c1], pt p, pt q, pt B, s4, .int a, .int f, .int g]) (d := .int f) (h2 := .slot 6) rfl (by simp [Ans.D, sz, szs]) (by simp [frzAll_cons, frzAll_nil, D.nk, D.frz, nk, fr]) (by simp [Says, onlyD, nk0, fnD, outD, sq, ret_eq, retS, sIf, sNil, sExpr, sSet, sPar, sPar3, sAsg, sSto, putAt, onE, onT, andV, orV, notV, andT, orT, notT, ifE, tst, Rz.bind, nm_eq, vl_eq, cst, bin, uno, chn, dsp, acons, anil, callD, okA_nil, okA_val, okA_slot, lendD, wbD, runL, mtD, appL, extL, popL, Hdl.get, valsOf, D.nks, D.nk, D.pl, D.pls, D.frz, D.frzs, isiD, isiB, iop, iopC, ltD, leD, gtD, geD, addD, subD, mulD, modD, fdivD, negD, modC, isND, notND, isNB, gN, gT, gU, gC, gNo, lamD, frzAll_nil, frzAll_cons, cloOf, onlyD, fz, astar, sRaise, nk, pl, w1]) (by simp [nm_eq]) rfl
  have l4 : ∀ g1 : List D → Rt, g1 [pt q, .int a, .int g] = .ok (.bl true) [pt q, .int a, .int g] → callD g1 (acons (nm 2) (acons (nm 5) (acons (nm 7) (anil)))) [.lst true [.int a1, .int b1, .int c1], pt p, pt q, pt B, s4, .int a, .int f, .int g] = .ok (.val (.bl true)) [.lst true [.int a1, .int b1, .int c1], pt p, pt q, pt B, s4, .int a, .int f, .int g] := fun g1 h => by
    simp [nk0, fnD, outD, sq, ret_eq, retS, sIf, sNil, sExpr, sSet, sPar, sPar3, sAsg, sSto, putAt, onE, onT, andV, orV, notV, andT, orT, notT, ifE, tst, Rz.bind, nm_eq, vl_eq, cst, bin, uno, chn, dsp, acons, anil, callD, okA_nil, okA_val, okA_slot, lendD, wbD, runL, mtD, appL, extL, popL, Hdl.get, valsOf, D.nks, D.nk, D.pl, D.pls, D.frz, D.frzs, isiD, isiB, iop, iopC, ltD, leD, gtD, geD, addD, subD, mulD, modD, fdivD, negD, modC, isND, notND, isNB, gN, gT, gU, gC, gNo, lamD, frzAll_nil, frzAll_cons, cloOf, onlyD, fz, astar, sRaise, h, pq]
  have l5 : ∀ (g1 : List D → Rt) (X Y : SDen), g1 [pt B, .int a] = .ok (.int v) [pt B, .int a] → sIf (tst (bin neD (callD g1 (acons (nm 3) (acons (nm 5) (anil)))) (bin modD (uno intD (bin mulD (nm 6) (nm 7))) (cst (.int 2147483647))))) X Y [.lst true [.int a1, .int b1, .int c1], pt p, pt q, pt B, s4, .int a, .int f, .int g] = Y [.lst true [.int a1, .int b1, .int c1], pt p, pt q, pt B, s4, .int a, .int f, .int g] := fun g1 X Y h => by
    refine if_f ?_
    simp [nk0, fnD, outD, sq, ret_eq, retS, sIf, sNil, sExpr, sSet, sPar, sPar3, sAsg, sSto, putAt, onE, onT, andV, orV, notV, andT, orT, notT, ifE, tst, Rz.bind, nm_eq, vl_eq, cst, bin, uno, chn, dsp, acons, anil, callD, okA_nil, okA_val, okA_slot, lendD, wbD, runL, mtD, appL, extL, popL, Hdl.get, valsOf, D.nks, D.nk, D.pl, D.pls, D.frz, D.frzs, isiD, isiB, iop, iopC, ltD, leD, gtD, geD, addD, subD, mulD, modD, fdivD, negD, modC, isND, notND, isNB, gN, gT, gU, gC, gNo, lamD, frzAll_nil, frzAll_cons, cloOf, onlyD, fz, astar, sRaise, h, pB, intD, mm, neD, eqB, ← vp]
  have l6 : ∀ (g1 : List D → Rt) (X : SDen), (B.length ≤ 40 → g1 [pt B, .int a, .int v] = .ok (.bl true) [pt B, .int a, .int v]) → sIf (andT (tst (bin ltD (uno lenD (nm 3)) (cst (.int 41)))) (notT (tst (callD g1 (acons (nm 3) (acons (nm 5) (acons (bin modD (uno intD (bin mulD (nm 6) (nm 7))) (cst (.int 2147483647))) (anil)))))))) X sNil [.lst true [.int a1, .int b1, .int c1], pt p, pt q, pt B, s4, .int a, .int f, .int g] = .nx [.lst true [.int a1, .int b1, .int c1], pt p, pt q, pt B, s4, .int a, .int f, .int g] := fun g1 X h => by
    by_cases hb : B.length < 41
    · have h' := h (by omega)
      have hz : (B.length : Int) < 41 := by omega
      refine if_f ((and_t (τ1 := [.lst true [.int a1, .int b1, .int c1], pt p, pt q, pt B, s4, .int a, .int f, .int g]) (by simp [nk0, fnD, outD, sq, ret_eq, retS, sIf, sNil, sExpr, sSet, sPar, sPar3, sAsg, sSto, putAt, onE, onT, andV, orV, notV, andT, orT, notT, ifE, tst, Rz.bind, nm_eq, vl_eq, cst, bin, uno, chn, dsp, acons, anil, callD, okA_nil, okA_val, okA_slot, lendD, wbD, runL, mtD, appL, extL, popL, Hdl.get, valsOf, D.nks, D.nk, D.pl, D.pls, D.frz, D.frzs, isiD, isiB, iop, iopC, ltD, leD, gtD, geD, addD, subD, mulD, modD, fdivD, negD, modC, isND, notND, isNB, gN, gT, gU, gC, gNo, lamD, frzAll_nil, frzAll_cons, cloOf, onlyD, fz, astar, sRaise, lenD, lB, hz])).trans ?_)
      simp [nk0, fnD, outD, sq, ret_eq, retS, sIf, sNil, sExpr, sSet, sPar, sPar3, sAsg, sSto, putAt, onE, onT, andV, orV, notV, andT, orT, notT, ifE, tst, Rz.bind, nm_eq, vl_eq, cst, bin, uno, chn, dsp, acons, anil, callD, okA_nil, okA_val, okA_slot, lendD, wbD, runL, mtD, appL, extL, popL, Hdl.get, valsOf, D.nks, D.nk, D.pl, D.pls, D.frz, D.frzs, isiD, isiB, iop, iopC, ltD, leD, gtD, geD, addD, subD, mulD, modD, fdivD, negD, modC, isND, notND, isNB, gN, gT, gU, gC, gNo, lamD, frzAll_nil, frzAll_cons, cloOf, onlyD, fz, astar, sRaise, pB, intD, mm, ← vp, h']
    · have hz : ¬ (B.length : Int) < 41 := by omega
      exact if_f (and_f (by simp [nk0, fnD, outD, sq, ret_eq, retS, sIf, sNil, sExpr, sSet, sPar, sPar3, sAsg, sSto, putAt, onE, onT, andV, orV, notV, andT, orT, notT, ifE, tst, Rz.bind, nm_eq, vl_eq, cst, bin, uno, chn, dsp, acons, anil, callD, okA_nil, okA_val, okA_slot, lendD, wbD, runL, mtD, appL, extL, popL, Hdl.get, valsOf, D.nks, D.nk, D.pl, D.pls, D.frz, D.frzs, isiD, isiB, iop, iopC, ltD, leD, gtD, geD, addD, subD, mulD, modD, fdivD, negD, modC, isND, notND, isNB, gN, gT, gU, gC, gNo, lamD, frzAll_nil, frzAll_cons, cloOf, onlyD, fz, astar, sRaise, lenD, lB, hz]))
  refine (sq_nx (B1 _ e1)).trans ((sq_nx (B2 _ v1 v2)).trans ((sq_nx (if_f ((or_f (not_t l3)).trans (not_t (l4 _ w2))))).trans ((sq_nx (l5 _ _ _ v3)).trans (l6 _ _ w3))))
theorem products_right {p q : List Int} {j : D} {m : Nat} (hp : Res p) (hl : p.length ≤ 40) (hq : Res q) (hl2 : q.length ≤ 40) (hj : Jar m j) (hm : m < 600000) : ∃ j', Jar (m + 9) j' ∧ d_law_c2_products_right [j, pt p, pt q] = .ok (.bl true) [j', pt p, pt q] := by
  have nk := iL_nk p
  have pl := iL_pl p
  have fr := iL_frz p
  have nq := iL_nk q
  have pq := iL_pl q
  have fq := iL_frz q
  have nB := iL_nk (prL p q)
  have pB := iL_pl (prL p q)
  have lB := prL_le p q
  have t1 := own_times hp hq (by omega) (by omega)
  have t2 := times_ok hp hl hq hl2
  have t3 := other_right hp hl hq hl2
  obtain ⟨a0, b0, c0, rfl⟩ := jar_shape hj
  have s1 : ∀ g1 : List D → Rt, g1 [pt p, pt q] = .ok (pt (prL p q)) [pt p, pt q] → sSet 3 (callD g1 (acons (nm 1) (acons (nm 2) (anil)))) [.lst true [.int a0, .int b0, .int c0], pt p, pt q, .un, .un, .un, .un, .un] = .nx [.lst true [.int a0, .int b0, .int c0], pt p, pt q, pt (prL p q), .un, .un, .un, .un] := fun g1 h => by
    simp [nk0, fnD, outD, sq, ret_eq, retS, sIf, sNil, sExpr, sSet, sPar, sPar3, sAsg, sSto, putAt, onE, onT, andV, orV, notV, andT, orT, notT, ifE, tst, Rz.bind, nm_eq, vl_eq, cst, bin, uno, chn, dsp, acons, anil, callD, okA_nil, okA_val, okA_slot, lendD, wbD, runL, mtD, appL, extL, popL, Hdl.get, valsOf, D.nks, D.nk, D.pl, D.pls, D.frz, D.frzs, isiD, isiB, iop, iopC, ltD, leD, gtD, geD, addD, subD, mulD, modD, fdivD, negD, modC, isND, notND, isNB, gN, gT, gU, gC, gNo, lamD, frzAll_nil, frzAll_cons, cloOf, onlyD, fz, astar, sRaise, h, pl, pq]
  have l3 := lam_tells (fb := callD d_times (acons (nm 1) (acons (nm 2) (anil)))) (o := nm 3) (cap := [1, 2]) (τ := [.lst true [.int a0, .int b0, .int c0], pt p, pt q, pt (prL p q), .un, .un, .un, .un]) (τ2 := [.lst true [.int a0, .int b0, .int c0], pt p, pt q, pt (prL p q), .un, .un, .un, .un]) (d := pt (prL p q)) (h2 := .slot 3) (pt_gd _) (sz_pt (by omega)) (by simp [frzAll_cons, frzAll_nil, D.nk, D.frz, nk, fr, nq, fq]) (by simp [Says, onlyD, nk0, fnD, outD, sq, ret_eq, retS, sIf, sNil, sExpr, sSet, sPar, sPar3, sAsg, sSto, putAt, onE, onT, andV, orV, notV, andT, orT, notT, ifE, tst, Rz.bind, nm_eq, vl_eq, cst, bin, uno, chn, dsp, acons, anil, callD, okA_nil, okA_val, okA_slot, lendD, wbD, runL, mtD, appL, extL, popL, Hdl.get, valsOf, D.nks, D.nk, D.pl, D.pls, D.frz, D.frzs, isiD, isiB, iop, iopC, ltD, leD, gtD, geD, addD, subD, mulD, modD, fdivD, negD, modC, isND, notND, isNB, gN, gT, gU, gC, gNo, lamD, frzAll_nil, frzAll_cons, cloOf, onlyD, fz, astar, sRaise, nk, pl, nq, pq, t2]) (by simp [nm_eq]) rfl
  have l4 : ∀ g1 : List D → Rt, g1 [pt p, pt q, pt (prL p q)] = .ok (.bl true) [pt p, pt q, pt (prL p q)] → callD g1 (acons (nm 1) (acons (nm 2) (acons (nm 3) (anil)))) [.lst true [.int a0, .int b0, .int c0], pt p, pt q, pt (prL p q), .un, .un, .un, .un] = .ok (.val (.bl true)) [.lst true [.int a0, .int b0, .int c0], pt p, pt q, pt (prL p q), .un, .un, .un, .un] := fun g1 h => by
    simp [nk0, fnD, outD, sq, ret_eq, retS, sIf, sNil, sExpr, sSet, sPar, sPar3, sAsg, sSto, putAt, onE, onT, andV, orV, notV, andT, orT, notT, ifE, tst, Rz.bind, nm_eq, vl_eq, cst, bin, uno, chn, dsp, acons, anil, callD, okA_nil, okA_val, okA_slot, lendD, wbD, runL, mtD, appL, extL, popL, Hdl.get, valsOf, D.nks, D.nk, D.pl, D.pls, D.frz, D.frzs, isiD, isiB, iop, iopC, ltD, leD, gtD, geD, addD, subD, mulD, modD, fdivD, negD, modC, isND, notND, isNB, gN, gT, gU, gC, gNo, lamD, frzAll_nil, frzAll_cons, cloOf, onlyD, fz, astar, sRaise, h, pl, pq, pB]
  obtain ⟨τ', e, j1, s4, s5, s6, s7, rfl, hj1⟩ := forL_inv (g := gN 4) (p := prB) (ds := (List.range 3).map fun (k : Nat) => D.int (k : Int)) (τ := [.lst true [.int a0, .int b0, .int c0], pt p, pt q, pt (prL p q), .un, .un, .un, .un])
    (fun k τ => ∃ j' s4 s5 s6 s7, τ = [j', pt p, pt q, pt (prL p q), s4, s5, s6, s7] ∧ Jar (m + 3 * k) j') (fun k d τ hd hI => by
      obtain ⟨j', s4, s5, s6, s7, rfl, hj'⟩ := hI
      obtain ⟨hk, rfl⟩ := range_i hd
      obtain ⟨j2, s5', s6', s7', hj2, q2⟩ := prod_body (s4 := .int (k : Int)) (s5 := s5) (s6 := s6) (s7 := s7) hp hl hq hl2 hj' (by omega)
      exact ⟨_, _, rfl, .inl q2, j2, _, _, _, _, rfl, by rw [show m + 3 * (k + 1) = m + 3 * k + 3 by omega]; exact hj2⟩) ⟨_, _, _, _, _, rfl, hj⟩
  have hj1 : Jar (m + 9) j1 := hj1
  have rg : rgS1 (cst (.int 3)) [.lst true [.int a0, .int b0, .int c0], pt p, pt q, pt (prL p q), .un, .un, .un, .un] = .ok ((List.range 3).map fun (k : Nat) => D.int (k : Int)) [.lst true [.int a0, .int b0, .int c0], pt p, pt q, pt (prL p q), .un, .un, .un, .un] := rgS1_of (h := .val (.int (3 : Nat))) rfl rfl (by omega)
  have body : b_law_c2_products_right [.lst true [.int a0, .int b0, .int c0], pt p, pt q, .un, .un, .un, .un, .un] = .rt (.bl true) [j1, pt p, pt q, pt (prL p q), s4, s5, s6, s7] :=
    (sq_nx (s1 _ t1)).trans ((sq_nx (if_f ((or_f (not_t l3)).trans (not_t (l4 _ t3))))).trans ((sq_nx ((for_of rg).trans e)).trans rfl))
  obtain ⟨a1, b1, c1, rfl⟩ := jar_shape hj1
  exact ⟨_, hj1, (nk0_ok (d := .bl true) rfl (by simp [D.nks, D.nk, nk, nq]) body rfl (by simp [outD, fx_law_c2_products_right, nkU, D.nk, D.nks, nk, nq])).trans (by simp [outD, fx_law_c2_products_right])⟩
end Law
end

section
set_option Elab.async false
set_option linter.all false
set_option maxRecDepth 100000
set_option maxHeartbeats 4000000
namespace Law
open Y Num
/-! ### quotients -/
theorem drop_any (p : List Int) (n : Nat) : cutD (iL p) (some (n : Int)) none = iL (p.drop n) := by
  unfold cutD
  rw [HT.sIx_none, HT.sIx_nat]
  unfold iL
  rw [List.length_map, ← List.map_drop, ← List.map_take]
  congr 1
  by_cases h : n ≤ p.length
  · rw [Nat.min_eq_left h]
    exact List.take_of_length_le (by simp)
  · rw [Nat.min_eq_right (by omega), Nat.sub_self, List.take_zero, List.drop_eq_nil_of_le (by omega)]
theorem slcT_drop (p : List Int) (n : Nat) : slcD (pt p) (some (n : Int)) none = some (pt (p.drop n)) := by
  show (if D.pls (iL p) then some (D.tup (cutD (iL p) (some (n : Int)) none)) else none) = _
  rw [if_pos (iL_pl p), drop_any]
theorem slcT_neg (p : List Int) : slcD (pt p) none (some (-1)) = some (pt (p.take (p.length - 1))) := by
  show (if D.pls (iL p) then some (D.tup (cutD (iL p) none (some (-1)))) else none) = _
  rw [if_pos (iL_pl p)]
  have : cutD (iL p) none (some (-1)) = iL (p.take (p.length - 1)) := by
    unfold cutD
    rw [HT.sIx_none, List.drop_zero, Nat.sub_zero]
    have e : HT.sIx (iL p).length (iL p).length (some (-1)) = p.length - 1 := by
      show (if (-1 : Int) < 0 then ((-1 : Int) + ((iL p).length : Int)).toNat else min (-1 : Int).toNat (iL p).length) = _
      rw [if_pos (by omega), iL_len]
      omega
    rw [e]
    unfold iL
    rw [List.map_take]
  rw [this]
/-- what the quotient is to answer -/
abbrev qB : SDen := (sq (sSet 7 (lamD d_law_c2_heard (callD d_quotient (acons (nm 6) (acons (nm 2) (anil)))) [2, 6] (anil))) (sIf (tst (bin eqD (callD d_law_c2_cut (acons (nm 2) (anil))) (dsp .tup (anil)))) (sIf (notT (tst (callD d_law_yv_same (acons (nm 7) (acons (dsp .tup (acons (cst (.str "Zero")) (acons (vl 2) (anil)))) (anil)))))) (sRet (cst (.bl false))) (sNil)) (sIf (notT (tst (callD d_law_yv_same (acons (nm 7) (acons (dsp .tup (acons (cst (.str "told")) (acons (callD d_law_c2_quotient (acons (nm 6) (acons (nm 2) (anil)))) (anil)))) (anil)))))) (sRet (cst (.bl false))) (sNil))))
theorem quot_body {p q r : List Int} {j x3 s4 s5 s7 : D} (hq : Res q) (hl2 : q.length ≤ 40) (hr : Res r) (lr : r.length ≤ 40) : ∃ s7', qB [j, pt p, pt q, x3, s4, s5, pt r, s7] = .nx [j, pt p, pt q, x3, s4, s5, pt r, s7'] := by
  have nr := iL_nk r
  have pr := iL_pl r
  have fr := iL_frz r
  have nq := iL_nk q
  have pq := iL_pl q
  have fq := iL_frz q
  have gq := pt_gd q
  have oc := own_cut (p := q) (by omega)
  have eqc := eq_pt (cuL q)
  have fz : frzAll [2, 6] [j, pt p, pt q, x3, s4, s5, pt r, s7] = some [j, pt p, pt q, x3, s4, s5, pt r, s7] := by
    simp [frzAll_cons, frzAll_nil, D.nk, D.frz, nr, fr, nq, fq]
  have tst_ : ∀ (g1 : List D → Rt) (A : D) (b : Bool), g1 [pt q] = .ok (pt (cuL q)) [pt q] → eqD (pt (cuL q)) (.tup []) = some (.bl b) → tst (bin eqD (callD g1 (acons (nm 2) (anil))) (dsp .tup (anil))) [j, pt p, pt q, x3, s4, s5, pt r, A] = .ok b [j, pt p, pt q, x3, s4, s5, pt r, A] := fun g1 A b h h2 => by
    simp [nk0, fnD, outD, sq, ret_eq, retS, sIf, sNil, sExpr, sSet, sPar, sPar3, sAsg, sSto, putAt, onE, onT, andV, orV, notV, andT, orT, notT, ifE, tst, Rz.bind, nm_eq, vl_eq, cst, bin, uno, chn, dsp, acons, anil, callD, okA_nil, okA_val, okA_slot, lendD, wbD, runL, mtD, appL, extL, popL, Hdl.get, valsOf, D.nks, D.nk, D.pl, D.pls, D.frz, D.frzs, isiD, isiB, iop, iopC, ltD, leD, gtD, geD, addD, subD, mulD, modD, fdivD, negD, modC, isND, notND, isNB, gN, gT, gU, gC, gNo, lamD, frzAll_nil, frzAll_cons, cloOf, onlyD, fz, astar, sRaise, h, h2, pq]
  by_cases h0 : cuL q = []
  · rw [decide_eq_true h0] at eqc
    have A : (Ans.ref "Zero" (pt q)).ok := ⟨gq, mZ⟩
    have eA := gd_ok (Ans.gd A)
    have m := quot_zero hr lr hq hl2 h0
    have l := lam_h (fb := callD d_quotient (acons (nm 6) (acons (nm 2) (anil)))) (cap := [2, 6]) A fz (by simp [Says, onlyD, nk0, fnD, outD, sq, ret_eq, retS, sIf, sNil, sExpr, sSet, sPar, sPar3, sAsg, sSto, putAt, onE, onT, andV, orV, notV, andT, orT, notT, ifE, tst, Rz.bind, nm_eq, vl_eq, cst, bin, uno, chn, dsp, acons, anil, callD, okA_nil, okA_val, okA_slot, lendD, wbD, runL, mtD, appL, extL, popL, Hdl.get, valsOf, D.nks, D.nk, D.pl, D.pls, D.frz, D.frzs, isiD, isiB, iop, iopC, ltD, leD, gtD, geD, addD, subD, mulD, modD, fdivD, negD, modC, isND, notND, isNB, gN, gT, gU, gC, gNo, lamD, frzAll_nil, frzAll_cons, cloOf, onlyD, fz, astar, sRaise, nr, pr, nq, pq, m])
    refine ⟨(Ans.ref "Zero" (pt q)).D, (sq_nx (set_of l)).trans ?_⟩
    refine (if_t (tst_ d_law_c2_cut _ true oc eqc)).trans (not_if (same_is (d := (Ans.ref "Zero" (pt q)).D) (Ans.gd A) (by simp only [Ans.D, sz, szs, szs_iL]; omega) (h1 := .slot 7) (τ1 := [j, pt p, pt q, x3, s4, s5, pt r, (Ans.ref "Zero" (pt q)).D]) (h2 := .val (Ans.ref "Zero" (pt q)).D) ?_ ?_ rfl rfl))
    · show nm 7 [j, pt p, pt q, x3, s4, s5, pt r, (Ans.ref "Zero" (pt q)).D] = _
      simp [nm_eq, eA.un]
    · simp [cst, Rz.bind, vl_eq, dsp, acons, anil, valsOf, Hdl.get, Ans.D, D.frz, fq]
  · rw [decide_eq_false h0] at eqc
    obtain ⟨iv, ri, ii, c1, c2⟩ := inv_ex ((cuL_res hq).cf _) (last_ne h0)
    have gT := quT_gd r q iv
    have eT := gd_ok gT
    have A : (Ans.told (quT r q iv)).ok := gT
    have eA := gd_ok (Ans.gd A)
    have m := quot_ok hr lr hq hl2 h0 ri c1
    have m2 := own_quotient hr hq (by omega) (by omega) h0 ri c2
    have zT : sz (Ans.told (quT r q iv)).D ≤ 900 := by
      unfold quT
      cases hQ : quL r q iv with
      | none => simp [Ans.D, sz, szs]
      | some x =>
        have lx : x.length ≤ 400 := by
          unfold quL at hQ
          split at hQ
          · cases hQ
            have := cuL_le r
            rw [dvQ_len]
            omega
          · cases hQ
        exact sz_pt lx
    have l := lam_h (fb := callD d_quotient (acons (nm 6) (acons (nm 2) (anil)))) (cap := [2, 6]) A fz (by simp [Says, onlyD, nk0, fnD, outD, sq, ret_eq, retS, sIf, sNil, sExpr, sSet, sPar, sPar3, sAsg, sSto, putAt, onE, onT, andV, orV, notV, andT, orT, notT, ifE, tst, Rz.bind, nm_eq, vl_eq, cst, bin, uno, chn, dsp, acons, anil, callD, okA_nil, okA_val, okA_slot, lendD, wbD, runL, mtD, appL, extL, popL, Hdl.get, valsOf, D.nks, D.nk, D.pl, D.pls, D.frz, D.frzs, isiD, isiB, iop, iopC, ltD, leD, gtD, geD, addD, subD, mulD, modD, fdivD, negD, modC, isND, notND, isNB, gN, gT, gU, gC, gNo, lamD, frzAll_nil, frzAll_cons, cloOf, onlyD, fz, astar, sRaise, nr, pr, nq, pq, m])
    refine ⟨(Ans.told (quT r q iv)).D, (sq_nx (set_of l)).trans ?_⟩
    refine (if_f (tst_ d_law_c2_cut _ false oc eqc)).trans (not_if (same_is (d := (Ans.told (quT r q iv)).D) (Ans.gd A) zT (h1 := .slot 7) (τ1 := [j, pt p, pt q, x3, s4, s5, pt r, (Ans.told (quT r q iv)).D]) (h2 := .val (Ans.told (quT r q iv)).D) ?_ ?_ rfl rfl))
    · show nm 7 [j, pt p, pt q, x3, s4, s5, pt r, (Ans.told (quT r q iv)).D] = _
      simp [nm_eq, eA.un]
    · have o : ∀ (g1 : List D → Rt) (X : D), g1 [pt r, pt q] = .ok (quT r q iv) [pt r, pt q] → dsp .tup (acons (cst (.str "told")) (acons (callD g1 (acons (nm 6) (acons (nm 2) (anil)))) (anil))) [j, pt p, pt q, x3, s4, s5, pt r, X] = .ok (.val (Ans.told (quT r q iv)).D) [j, pt p, pt q, x3, s4, s5, pt r, X] := fun g1 X h => by
        simp [nk0, fnD, outD, sq, ret_eq, retS, sIf, sNil, sExpr, sSet, sPar, sPar3, sAsg, sSto, putAt, onE, onT, andV, orV, notV, andT, orT, notT, ifE, tst, Rz.bind, nm_eq, vl_eq, cst, bin, uno, chn, dsp, acons, anil, callD, okA_nil, okA_val, okA_slot, lendD, wbD, runL, mtD, appL, extL, popL, Hdl.get, valsOf, D.nks, D.nk, D.pl, D.pls, D.frz, D.frzs, isiD, isiB, iop, iopC, ltD, leD, gtD, geD, addD, subD, mulD, modD, fdivD, negD, modC, isND, notND, isNB, gN, gT, gU, gC, gNo, lamD, frzAll_nil, frzAll_cons, cloOf, onlyD, fz, astar, sRaise, h, pr, pq, Ans.D]
      exact o d_law_c2_quotient _ m2
theorem quotients_right {p q : List Int} {j : D} {m : Nat} (hp : Res p) (hl : p.length ≤ 40) (hq : Res q) (hl2 : q.length ≤ 40) (hj : Jar m j) (hm : m < 600000) : ∃ j', Jar (m + 4) j' ∧ d_law_c2_quotients_right [j, pt p, pt q] = .ok (.bl true) [j', pt p, pt q] := by
  have nk := iL_nk p
  have pl := iL_pl p
  have fp := iL_frz p
  have lpi := iL_len p
  have nq := iL_nk q
  have pq := iL_pl q
  have fq := iL_frz q
  have lqi := iL_len q
  have t1 := own_times hp hq (by omega) (by omega)
  have rP := prL_res p q
  have lP := prL_le p q
  have sl := slcT_any (prL p q) 40
  obtain ⟨B, hB⟩ : ∃ B, B = (prL p q).take 40 := ⟨_, rfl⟩
  have rB : Res B := by rw [hB]; exact Res.take rP 40
  have lB : B.length ≤ 40 := by rw [hB, List.length_take]; omega
  rw [← hB] at sl
  have lBi := iL_len B
  have fB := iL_frz B
  have pB := iL_pl B
  obtain ⟨n, j1, hn, hj1, e1⟩ := take_nat (n := max 1 B.length) hj (by omega) (by omega) (by omega)
  obtain ⟨x, j2, rx, hj2, e2⟩ := residue_jar hj1 (by omega)
  obtain ⟨a0, b0, c0, rfl⟩ := jar_shape hj
  obtain ⟨a1, b1, c1, rfl⟩ := jar_shape hj1
  obtain ⟨a2, b2, c2, rfl⟩ := jar_shape hj2
  have mx : max2D (.int 1) (.int (B.length : Int)) = some (.int ((max 1 B.length : Nat) : Int)) := by
    show some (D.int (if (B.length : Int) > 1 then (B.length : Int) else 1)) = _
    congr 2
    split <;> omega
  have s1 : ∀ g1 : List D → Rt, g1 [pt p, pt q] = .ok (pt (prL p q)) [pt p, pt q] → sSet 3 (slc (callD g1 (acons (nm 1) (acons (nm 2) (anil)))) (pn) (pso (cst (.int 40)))) [.lst true [.int a0, .int b0, .int c0], pt p, pt q, .un, .un, .un, .un, .un] = .nx [.lst true [.int a0, .int b0, .int c0], pt p, pt q, pt B, .un, .un, .un, .un] := fun g1 h => by
    have sl' : slcD (pt (prL p q)) none (some 40) = some (pt B) := sl
    simp [nk0, fnD, outD, sq, ret_eq, retS, sIf, sNil, sExpr, sSet, sPar, sPar3, sAsg, sSto, putAt, onE, onT, andV, orV, notV, andT, orT, notT, ifE, tst, Rz.bind, nm_eq, vl_eq, cst, bin, uno, chn, dsp, acons, anil, callD, okA_nil, okA_val, okA_slot, lendD, wbD, runL, mtD, appL, extL, popL, Hdl.get, valsOf, D.nks, D.nk, D.pl, D.pls, D.frz, D.frzs, isiD, isiB, iop, iopC, ltD, leD, gtD, geD, addD, subD, mulD, modD, fdivD, negD, modC, isND, notND, isNB, gN, gT, gU, gC, gNo, lamD, frzAll_nil, frzAll_cons, cloOf, onlyD, fz, astar, sRaise, h, pl, pq, slc, pn, pso, sl']
  have s2 : ∀ g1 : List D → Rt, g1 [.lst true [.int a0, .int b0, .int c0], .int ((max 1 B.length : Nat) : Int)] = .ok (.int (n : Int)) [.lst true [.int a1, .int b1, .int c1], .int ((max 1 B.length : Nat) : Int)] → sSet 4 (callD g1 (acons (nm 0) (acons (bin max2D (cst (.int 1)) (uno lenD (nm 3))) (anil)))) [.lst true [.int a0, .int b0, .int c0], pt p, pt q, pt B, .un, .un, .un, .un] = .nx [.lst true [.int a1, .int b1, .int c1], pt p, pt q, pt B, .int (n : Int), .un, .un, .un] := fun g1 h => by
    generalize ((max 1 B.length : Nat) : Int) = N at *
    simp [nk0, fnD, outD, sq, ret_eq, retS, sIf, sNil, sExpr, sSet, sPar, sPar3, sAsg, sSto, putAt, onE, onT, andV, orV, notV, andT, orT, notT, ifE, tst, Rz.bind, nm_eq, vl_eq, cst, bin, uno, chn, dsp, acons, anil, callD, okA_nil, okA_val, okA_slot, lendD, wbD, runL, mtD, appL, extL, popL, Hdl.get, valsOf, D.nks, D.nk, D.pl, D.pls, D.frz, D.frzs, isiD, isiB, iop, iopC, ltD, leD, gtD, geD, addD, subD, mulD, modD, fdivD, negD, modC, isND, notND, isNB, gN, gT, gU, gC, gNo, lamD, frzAll_nil, frzAll_cons, cloOf, onlyD, fz, astar, sRaise, lenD, lBi, mx, h]
  obtain ⟨M, hM⟩ : ∃ M, M = B.take n ++ [x] ++ B.drop (n + 1) := ⟨_, rfl⟩
  have rM : Res M := by
    rw [hM]
    exact Res.app (Res.app (Res.take rB n) fun y hy => by rw [List.mem_singleton.mp hy]; exact rx) (Res.drop rB _)
  have lM : M.length ≤ 40 := by
    rw [hM, List.length_append, List.length_append, List.length_take, List.length_drop, List.length_singleton]
    omega
  have k1 := slcT_any B n
  have k2 := slcT_drop B (n + 1)
  have en : ((n + 1 : Nat) : Int) = (n : Int) + 1 := by omega
  rw [en] at k2
  have ad1 : addD (pt (B.take n)) (.tup [.int x]) = some (pt (B.take n ++ [x])) := addT_any (q := [x]) (by rw [List.length_take, List.length_singleton]; omega)
  have ad2 : addD (pt (B.take n ++ [x])) (pt (B.drop (n + 1))) = some (pt M) := by
    rw [hM]
    exact addT_any (by rw [List.length_append, List.length_take, List.length_drop, List.length_singleton]; omega)
  have s3 : ∀ g1 : List D → Rt, g1 [.lst true [.int a1, .int b1, .int c1]] = .ok (.int x) [.lst true [.int a2, .int b2, .int c2]] → sSet 5 (bin addD (bin addD (slc (nm 3) (pn) (pso (nm 4))) (dsp .tup (acons (callD g1 (acons (nm 0) (anil))) (anil)))) (slc (nm 3) (pso (bin addD (nm 4) (cst (.int 1)))) (pn))) [.lst true [.int a1, .int b1, .int c1], pt p, pt q, pt B, .int (n : Int), .un, .un, .un] = .nx [.lst true [.int a2, .int b2, .int c2], pt p, pt q, pt B, .int (n : Int), pt M, .un, .un] := fun g1 h => by
    have ai : addD (.int (n : Int)) (.int 1) = some (.int ((n : Int) + 1)) := rfl
    generalize hT0 : B.take n ++ [x] = T0 at *
    generalize B.take n = T1 at *
    generalize B.drop (n + 1) = T2 at *
    simp [sSet, onE, Rz.bind, nm_eq, cst, bin, dsp, acons, anil, callD, okA_nil, okA_slot, okA_val, lendD, wbD, Hdl.get, valsOf, D.pl, D.pls, D.frz, D.frzs, D.nk, D.nks, slc, pn, pso, ai, k1, k2, ad1, ad2, h]
  obtain ⟨E, hE⟩ : ∃ E, E = B.take (B.length - 1) := ⟨_, rfl⟩
  obtain ⟨G, hG⟩ : ∃ G, G = (B ++ [0, 0]).take 40 := ⟨_, rfl⟩
  have k3 := slcT_neg B
  rw [← hE] at k3
  have k4 := slcT_any (B ++ [0, 0]) 40
  rw [← hG] at k4
  have ad3 : addD (pt B) (.tup [.int 0, .int 0]) = some (pt (B ++ [0, 0])) := addT_any (q := [0, 0]) (by simp; omega)
  have fM := iL_frz M
  obtain ⟨T, hT⟩ : ∃ T : List (List Int), T = [B, M, p, q, [], [0, 0], E, G] := ⟨_, rfl⟩
  have T_ok : ∀ r ∈ T, Res r ∧ r.length ≤ 40 := fun r hr => by
    rw [hT] at hr
    simp only [List.mem_cons, List.not_mem_nil, or_false] at hr
    rcases hr with rfl | rfl | rfl | rfl | rfl | rfl | rfl | rfl
    · exact ⟨rB, lB⟩
    · exact ⟨rM, lM⟩
    · exact ⟨hp, hl⟩
    · exact ⟨hq, hl2⟩
    · exact ⟨Res.nil, by simp⟩
    · exact ⟨Res.zeros 2, by simp⟩
    · exact ⟨by rw [hE]; exact Res.take rB _, by rw [hE, List.length_take]; omega⟩
    · exact ⟨by rw [hG]; exact Res.take (Res.app rB (Res.zeros 2)) _, by rw [hG, List.length_take]; omega⟩
  have sq_ : seqS (dsp (.lst true) (acons (vl 3) (acons (vl 5) (acons (vl 1) (acons (vl 2) (acons (dsp .tup (anil)) (acons (dsp .tup (acons (cst (.int 0)) (acons (cst (.int 0)) (anil)))) (acons (slc (nm 3) (pn) (pso (uno negD (cst (.int 1))))) (acons (slc (bin addD (nm 3) (dsp .tup (acons (cst (.int 0)) (acons (cst (.int 0)) (anil))))) (pn) (pso (cst (.int 40)))) (anil)))))))))) [.lst true [.int a2, .int b2, .int c2], pt p, pt q, pt B, .int (n : Int), pt M, .un, .un] = .ok (T.map pt) [.lst true [.int a2, .int b2, .int c2], pt p, pt q, pt B, .int (n : Int), pt M, .un, .un] := by
    rw [hT]
    have k4' : slcD (pt (B ++ [0, 0])) none (some 40) = some (pt G) := k4
    have fE := iL_frz E
    have fG := iL_frz G
    have e0 : iL [] = [] := rfl
    have e00 : iL [0, 0] = [.int 0, .int 0] := rfl
    generalize B ++ [0, 0] = B0 at *
    simp [seqS, seqOf, Rz.bind, nm_eq, vl_eq, cst, uno, bin, dsp, acons, anil, Hdl.get, valsOf, D.frz, D.frzs, negD, slc, pn, pso, k3, k4', ad3, fp, fq, fB, fM, fE, fG, e0, e00]
  obtain ⟨τ', e5, s6, s7, rfl⟩ := forL_inv (g := gN 6) (p := qB) (ds := T.map pt) (τ := [.lst true [.int a2, .int b2, .int c2], pt p, pt q, pt B, .int (n : Int), pt M, .un, .un])
    (fun k τ => ∃ s6 s7, τ = [.lst true [.int a2, .int b2, .int c2], pt p, pt q, pt B, .int (n : Int), pt M, s6, s7]) (fun k d τ hd hI => by
      obtain ⟨s6, s7, rfl⟩ := hI
      obtain ⟨r, hr, rfl⟩ := List.mem_map.mp (List.mem_of_getElem? hd)
      obtain ⟨r1, r2⟩ := T_ok r hr
      obtain ⟨s7', q1⟩ := quot_body (j := .lst true [.int a2, .int b2, .int c2]) (p := p) (x3 := pt B) (s4 := .int (n : Int)) (s5 := pt M) (s7 := s7) hq hl2 r1 r2
      exact ⟨_, _, rfl, .inl q1, _, _, rfl⟩) ⟨_, _, rfl⟩
  have oc := own_cut (p := q) (by omega)
  have oc2 := own_cut (p := p) (by omega)
  have eqc := eq_pt (cuL q)
  have head := (sq_nx (g := (sq (sSet 4 (callD d_law_take (acons (nm 0) (acons (bin max2D (cst (.int 1)) (uno lenD (nm 3))) (anil))))) (sq (sSet 5 (bin addD (bin addD (slc (nm 3) (pn) (pso (nm 4))) (dsp .tup (acons (callD d_law_yv_residue (acons (nm 0) (anil))) (anil)))) (slc (nm 3) (pso (bin addD (nm 4) (cst (.int 1)))) (pn)))) (sq (sFor (seqS (dsp (.lst true) (acons (vl 3) (acons (vl 5) (acons (vl 1) (acons (vl 2) (acons (dsp .tup (anil)) (acons (dsp .tup (acons (cst (.int 0)) (acons (cst (.int 0)) (anil)))) (acons (slc (nm 3) (pn) (pso (uno negD (cst (.int 1))))) (acons (slc (bin addD (nm 3) (dsp .tup (acons (cst (.int 0)) (acons (cst (.int 0)) (anil))))) (pn) (pso (cst (.int 40)))) (anil))))))))))) (gN 6) (sq (sSet 7 (lamD d_law_c2_heard (callD d_quotient (acons (nm 6) (acons (nm 2) (anil)))) [2, 6] (anil))) (sIf (tst (bin eqD (callD d_law_c2_cut (acons (nm 2) (anil))) (dsp .tup (anil)))) (sIf (notT (tst (callD d_law_yv_same (acons (nm 7) (acons (dsp .tup (acons (cst (.str "Zero")) (acons (vl 2) (anil)))) (anil)))))) (sRet (cst (.bl false))) (sNil)) (sIf (notT (tst (callD d_law_yv_same (acons (nm 7) (acons (dsp .tup (acons (cst (.str "told")) (acons (callD d_law_c2_quotient (acons (nm 6) (acons (nm 2) (anil)))) (anil)))) (anil)))))) (sRet (cst (.bl false))) (sNil))))) (sq (sIf (orT (tst (bin eqD (callD d_law_c2_cut (acons (nm 2) (anil))) (dsp .tup (anil)))) (tst (bin gtD (bin addD (uno lenD (nm 1)) (uno lenD (nm 2))) (cst (.int 41))))) (sRet (cst (.bl true))) (sNil)) (sRet (lamD d_law_c2_tells (callD d_quotient (acons (nm 3) (acons (nm 2) (anil)))) [2, 3] (acons (callD d_law_c2_cut (acons (nm 1) (anil))) (anil))))))))) (s1 _ t1)).trans ((sq_nx (s2 _ e1)).trans ((sq_nx (s3 _ e2)).trans (sq_nx ((for_of sq_).trans e5))))
  have head : b_law_c2_quotients_right [.lst true [.int a0, .int b0, .int c0], pt p, pt q, .un, .un, .un, .un, .un] = sq (sIf (orT (tst (bin eqD (callD d_law_c2_cut (acons (nm 2) (anil))) (dsp .tup (anil)))) (tst (bin gtD (bin addD (uno lenD (nm 1)) (uno lenD (nm 2))) (cst (.int 41))))) (sRet (cst (.bl true))) (sNil)) (sRet (lamD d_law_c2_tells (callD d_quotient (acons (nm 3) (acons (nm 2) (anil)))) [2, 3] (acons (callD d_law_c2_cut (acons (nm 1) (anil))) (anil)))) [.lst true [.int a2, .int b2, .int c2], pt p, pt q, pt B, .int (n : Int), pt M, s6, s7] := head
  have fin : sq (sIf (orT (tst (bin eqD (callD d_law_c2_cut (acons (nm 2) (anil))) (dsp .tup (anil)))) (tst (bin gtD (bin addD (uno lenD (nm 1)) (uno lenD (nm 2))) (cst (.int 41))))) (sRet (cst (.bl true))) (sNil)) (sRet (lamD d_law_c2_tells (callD d_quotient (acons (nm 3) (acons (nm 2) (anil)))) [2, 3] (acons (callD d_law_c2_cut (acons (nm 1) (anil))) (anil)))) [.lst true [.int a2, .int b2, .int c2], pt p, pt q, pt B, .int (n : Int), pt M, s6, s7] = .rt (.bl true) [.lst true [.int a2, .int b2, .int c2], pt p, pt q, pt B, .int (n : Int), pt M, s6, s7] := by
    have t0 : ∀ (g1 : List D → Rt) (b : Bool), g1 [pt q] = .ok (pt (cuL q)) [pt q] → eqD (pt (cuL q)) (.tup []) = some (.bl b) → tst (bin eqD (callD g1 (acons (nm 2) (anil))) (dsp .tup (anil))) [.lst true [.int a2, .int b2, .int c2], pt p, pt q, pt B, .int (n : Int), pt M, s6, s7] = .ok b [.lst true [.int a2, .int b2, .int c2], pt p, pt q, pt B, .int (n : Int), pt M, s6, s7] := fun g1 b h h2 => by
      simp [nk0, fnD, outD, sq, ret_eq, retS, sIf, sNil, sExpr, sSet, sPar, sPar3, sAsg, sSto, putAt, onE, onT, andV, orV, notV, andT, orT, notT, ifE, tst, Rz.bind, nm_eq, vl_eq, cst, bin, uno, chn, dsp, acons, anil, callD, okA_nil, okA_val, okA_slot, lendD, wbD, runL, mtD, appL, extL, popL, Hdl.get, valsOf, D.nks, D.nk, D.pl, D.pls, D.frz, D.frzs, isiD, isiB, iop, iopC, ltD, leD, gtD, geD, addD, subD, mulD, modD, fdivD, negD, modC, isND, notND, isNB, gN, gT, gU, gC, gNo, lamD, frzAll_nil, frzAll_cons, cloOf, onlyD, fz, astar, sRaise, h, h2, pq]
    by_cases h0 : cuL q = []
    · rw [decide_eq_true h0] at eqc
      exact sq_rt ((if_t (or_t (t0 _ true oc eqc))).trans rfl)
    · rw [decide_eq_false h0] at eqc
      have t2 : tst (bin gtD (bin addD (uno lenD (nm 1)) (uno lenD (nm 2))) (cst (.int 41))) [.lst true [.int a2, .int b2, .int c2], pt p, pt q, pt B, .int (n : Int), pt M, s6, s7] = .ok (decide ((41 : Int) < (p.length : Int) + (q.length : Int))) [.lst true [.int a2, .int b2, .int c2], pt p, pt q, pt B, .int (n : Int), pt M, s6, s7] := by
        simp [nk0, fnD, outD, sq, ret_eq, retS, sIf, sNil, sExpr, sSet, sPar, sPar3, sAsg, sSto, putAt, onE, onT, andV, orV, notV, andT, orT, notT, ifE, tst, Rz.bind, nm_eq, vl_eq, cst, bin, uno, chn, dsp, acons, anil, callD, okA_nil, okA_val, okA_slot, lendD, wbD, runL, mtD, appL, extL, popL, Hdl.get, valsOf, D.nks, D.nk, D.pl, D.pls, D.frz, D.frzs, isiD, isiB, iop, iopC, ltD, leD, gtD, geD, addD, subD, mulD, modD, fdivD, negD, modC, isND, notND, isNB, gN, gT, gU, gC, gNo, lamD, frzAll_nil, frzAll_cons, cloOf, onlyD, fz, astar, sRaise, lenD, lpi, lqi]
      by_cases h41 : (41 : Int) < (p.length : Int) + (q.length : Int)
      · rw [decide_eq_true h41] at t2
        exact sq_rt ((if_t ((or_f (t0 _ false oc eqc)).trans t2)).trans rfl)
      · rw [decide_eq_false h41] at t2
        obtain ⟨iv, ri, ii, i1, i2⟩ := inv_ex ((cuL_res hq).cf _) (last_ne h0)
        have eB : B = prL p q := by
          rw [hB]
          apply List.take_of_length_le
          by_cases z : p = [] ∨ q = []
          · have : prL p q = [] := if_pos z
            rw [this]
            simp
          · rw [prL_len (fun y => z (.inl y)) (fun y => z (.inr y))]
            omega
        have m := quot_ok rB lB hq hl2 h0 ri i1
        have eT : quT B q iv = pt (cuL p) := by
          unfold quT
          rw [eB, quL_prod hp h0 ii]
        rw [eT] at m
        have nB := iL_nk B
        have l := lam_tells (fb := callD d_quotient (acons (nm 3) (acons (nm 2) (anil)))) (o := callD d_law_c2_cut (acons (nm 1) (anil))) (cap := [2, 3]) (τ := [.lst true [.int a2, .int b2, .int c2], pt p, pt q, pt B, .int (n : Int), pt M, s6, s7]) (τ2 := [.lst true [.int a2, .int b2, .int c2], pt p, pt q, pt B, .int (n : Int), pt M, s6, s7]) (d := pt (cuL p)) (h2 := .val (pt (cuL p))) (pt_gd _) (sz_pt (by have := cuL_le p; omega)) (by simp [frzAll_cons, frzAll_nil, D.nk, D.frz, nq, fq, nB, fB]) (by simp [Says, onlyD, nk0, fnD, outD, sq, ret_eq, retS, sIf, sNil, sExpr, sSet, sPar, sPar3, sAsg, sSto, putAt, onE, onT, andV, orV, notV, andT, orT, notT, ifE, tst, Rz.bind, nm_eq, vl_eq, cst, bin, uno, chn, dsp, acons, anil, callD, okA_nil, okA_val, okA_slot, lendD, wbD, runL, mtD, appL, extL, popL, Hdl.get, valsOf, D.nks, D.nk, D.pl, D.pls, D.frz, D.frzs, isiD, isiB, iop, iopC, ltD, leD, gtD, geD, addD, subD, mulD, modD, fdivD, negD, modC, isND, notND, isNB, gN, gT, gU, gC, gNo, lamD, frzAll_nil, frzAll_cons, cloOf, onlyD, fz, astar, sRaise, nq, pq, nB, pB, m]) (by
          have o : ∀ g1 : List D → Rt, g1 [pt p] = .ok (pt (cuL p)) [pt p] → callD g1 (acons (nm 1) (anil)) [.lst true [.int a2, .int b2, .int c2], pt p, pt q, pt B, .int (n : Int), pt M, s6, s7] = .ok (.val (pt (cuL p))) [.lst true [.int a2, .int b2, .int c2], pt p, pt q, pt B, .int (n : Int), pt M, s6, s7] := fun g1 h => by
            simp [nk0, fnD, outD, sq, ret_eq, retS, sIf, sNil, sExpr, sSet, sPar, sPar3, sAsg, sSto, putAt, onE, onT, andV, orV, notV, andT, orT, notT, ifE, tst, Rz.bind, nm_eq, vl_eq, cst, bin, uno, chn, dsp, acons, anil, callD, okA_nil, okA_val, okA_slot, lendD, wbD, runL, mtD, appL, extL, popL, Hdl.get, valsOf, D.nks, D.nk, D.pl, D.pls, D.frz, D.frzs, isiD, isiB, iop, iopC, ltD, leD, gtD, geD, addD, subD, mulD, modD, fdivD, negD, modC, isND, notND, isNB, gN, gT, gU, gC, gNo, lamD, frzAll_nil, frzAll_cons, cloOf, onlyD, fz, astar, sRaise, h, pl]
          exact o _ oc2) rfl
        exact (sq_nx (if_f ((or_f (t0 _ false oc eqc)).trans t2))).trans (ret_of l)
  exact ⟨_, hj2, (nk0_ok (d := .bl true) rfl (by simp [D.nks, D.nk, nk, nq]) (head.trans fin) rfl (by simp [outD, fx_law_c2_quotients_right, nkU, D.nk, D.nks, nk, nq])).trans (by simp [outD, fx_law_c2_quotients_right])⟩
end Law
end

section
set_option Elab.async false
set_option linter.all false
set_option maxRecDepth 100000
set_option maxHeartbeats 4000000
namespace Law
open Y Num
/-! ### what is refused -/
def odd9 : List D := [.non, .lst false [.int 0], .tup (List.replicate 41 (.int 0)), .tup [.non], .tup [.int 0, .int (-1)], .tup [.int 2147483647], .tup [.int 0, .bl true], .str "1", .int 7]
def bad7 : List D := [.non, .lst false [.int 0], .tup (List.replicate 41 (.int 0)), .tup [.int 0, .int 0, .non], .tup [.int (-1)], .tup [.int 1, .str "1"], .tup [.bl false]]
theorem odd9_ok : ∀ d ∈ odd9, gd d = true ∧ faultF d ≠ .non := fun d h => by
  simp only [odd9, List.mem_cons, List.not_mem_nil, or_false] at h
  rcases h with rfl | rfl | rfl | rfl | rfl | rfl | rfl | rfl | rfl <;> refine ⟨by decide +kernel, fun z => ?_⟩
  all_goals
    first
    | (cases z; done)
    | (simp [faultF, firstNo, isRes] at z; done)
theorem bad7_ok : ∀ d ∈ bad7, gd d = true ∧ faultF d ≠ .non := fun d h => by
  simp only [bad7, List.mem_cons, List.not_mem_nil, or_false] at h
  rcases h with rfl | rfl | rfl | rfl | rfl | rfl | rfl <;> refine ⟨by decide +kernel, fun z => ?_⟩
  all_goals
    first
    | (cases z; done)
    | (simp [faultF, firstNo, isRes] at z; done)
theorem odd9_gds : gds odd9 = true := gds_of fun d h => (odd9_ok d h).1
theorem bad7_gds : gds bad7 = true := gds_of fun d h => (bad7_ok d h).1
section
variable {x0 x1 x2 x3 x4 x5 x7 x8 : D}
theorem app6 {F : Den Hdl} {xs : List D} {d : D} (h : F [x0, x1, x2, x3, x4, x5, .lst true xs, x7, x8] = .ok (.val d) [x0, x1, x2, x3, x4, x5, .lst true xs, x7, x8]) (hl : xs.length < 100000) :
    sExpr (mtD appL 6 (acons F anil)) [x0, x1, x2, x3, x4, x5, .lst true xs, x7, x8] = .nx [x0, x1, x2, x3, x4, x5, .lst true (xs ++ [d]), x7, x8] := by
  simp [nk0, fnD, outD, sq, sRet, sIf, sNil, sExpr, sSet, sPar, sPar3, sAsg, sSto, putAt, onE, onT, andV, orV, notV, andT, orT, notT, ifE, tst, Rz.bind, nm, vl, cst, bin, uno, chn, dsp, acons, anil, callD, okA, lendD, wbD, runL, mtD, appL, extL, popL, Hdl.get, valsOf, D.nks, D.nk, D.pl, D.pls, D.frz, D.frzs, nkU, isiD, isiB, iop, iopC, ltD, leD, gtD, geD, addD, subD, mulD, modD, fdivD, negD, modC, isND, notND, isNB, ixD, plO, gN, gT, gU, gC, gNo, lamD, frzAll, cloOf, onlyD, fz, astar, sRaise, h, hl]
theorem fst6 {F : Den Hdl} {d : D} (h : F [x0, x1, x2, x3, x4, x5, .un, x7, x8] = .ok (.val d) [x0, x1, x2, x3, x4, x5, .un, x7, x8]) :
    sSet 6 (dsp (.lst true) (acons F anil)) [x0, x1, x2, x3, x4, x5, .un, x7, x8] = .nx [x0, x1, x2, x3, x4, x5, .lst true [d], x7, x8] := by
  simp [nk0, fnD, outD, sq, sRet, sIf, sNil, sExpr, sSet, sPar, sPar3, sAsg, sSto, putAt, onE, onT, andV, orV, notV, andT, orT, notT, ifE, tst, Rz.bind, nm, vl, cst, bin, uno, chn, dsp, acons, anil, callD, okA, lendD, wbD, runL, mtD, appL, extL, popL, Hdl.get, valsOf, D.nks, D.nk, D.pl, D.pls, D.frz, D.frzs, nkU, isiD, isiB, iop, iopC, ltD, leD, gtD, geD, addD, subD, mulD, modD, fdivD, negD, modC, isND, notND, isNB, ixD, plO, gN, gT, gU, gC, gNo, lamD, frzAll, cloOf, onlyD, fz, astar, sRaise, h]
end
def res7 : List D := [.int 2147483647, .int (-1), .non, .bl true, .str "0", .tup [.int 0], .int 1000000000000000000000000000000]
theorem res7_ok : ∀ d ∈ res7, gd d = true ∧ sz d ≤ 2 ∧ isRes d = false := fun d h => by
  simp only [res7, List.mem_cons, List.not_mem_nil, or_false] at h
  rcases h with rfl | rfl | rfl | rfl | rfl | rfl | rfl <;> exact ⟨rfl, by simp [sz, szs], by decide⟩
abbrev rfB : SDen := (sIf (notT (tst (callD d_law_yv_same (acons (lamD d_law_c2_heard (callD d_value (acons (nm 1) (acons (nm 8) (anil)))) [1, 8] (anil)) (acons (dsp .tup (acons (cst (.str "BadResidue")) (acons (vl 8) (anil)))) (anil)))))) (sRet (cst (.bl false))) (sNil))
theorem ref_body {p : List Int} {x0 x2 x3 x4 x5 x6 x7 d : D} (hp : Res p) (hl : p.length ≤ 40) (hd : gd d = true) (hz : sz d ≤ 2) (hr : isRes d = false) : rfB [x0, pt p, x2, x3, x4, x5, x6, x7, d] = .nx [x0, pt p, x2, x3, x4, x5, x6, x7, d] := by
  have nk := iL_nk p
  have pl := iL_pl p
  have fp := iL_frz p
  have e := gd_ok hd
  have A : (Ans.ref "BadResidue" d).ok := ⟨hd, mBR⟩
  have m := value_res hp hl hd hr
  have l := lam_h (fb := callD d_value (acons (nm 1) (acons (nm 8) (anil)))) (cap := [1, 8]) (τ := [x0, pt p, x2, x3, x4, x5, x6, x7, d]) A (by simp [frzAll_cons, frzAll_nil, D.nk, D.frz, nk, fp, e.un, e.nk, e.frz]) (by simp [Says, onlyD, nk0, fnD, outD, sq, ret_eq, retS, sIf, sNil, sExpr, sSet, sPar, sPar3, sAsg, sSto, putAt, onE, onT, andV, orV, notV, andT, orT, notT, ifE, tst, Rz.bind, nm_eq, vl_eq, cst, bin, uno, chn, dsp, acons, anil, callD, okA_nil, okA_val, okA_slot, lendD, wbD, runL, mtD, appL, extL, popL, Hdl.get, valsOf, D.nks, D.nk, D.pl, D.pls, D.frz, D.frzs, isiD, isiB, iop, iopC, ltD, leD, gtD, geD, addD, subD, mulD, modD, fdivD, negD, modC, isND, notND, isNB, gN, gT, gU, gC, gNo, lamD, frzAll_nil, frzAll_cons, cloOf, onlyD, fz, astar, sRaise, nk, pl, e.un, e.pl, e.nk, m])
  refine not_if (same_is (d := (Ans.ref "BadResidue" d).D) (Ans.gd A) (by simp only [Ans.D, sz, szs]; omega) (h1 := .val (Ans.ref "BadResidue" d).D) (h2 := .val (Ans.ref "BadResidue" d).D) l ?_ rfl rfl)
  simp [cst, Rz.bind, vl_eq, dsp, acons, anil, valsOf, Hdl.get, Ans.D, e.un, e.frz]
theorem refused_right {p : List Int} {j : D} {m : Nat} (hp : Res p) (hl : p.length ≤ 40) (hj : Jar m j) (hm : m < 600000) : ∃ j', Jar (m + 2) j' ∧ d_law_c2_refused_right [j, pt p] = .ok (.bl true) [j', pt p] := by
  have nk := iL_nk p
  have pl := iL_pl p
  have fp := iL_frz p
  obtain ⟨u, j1, hu, hj1, e1⟩ := one_any (o := false) (xs := odd9) hj (by omega) (by simp [odd9]) (by simp [odd9]) odd9_gds
  obtain ⟨v, j2, hv, hj2, e2⟩ := one_any (o := false) (xs := bad7) hj1 (by omega) (by simp [bad7]) (by simp [bad7]) bad7_gds
  obtain ⟨gu, fu⟩ := odd9_ok u hu
  obtain ⟨gv, fv⟩ := bad7_ok v hv
  obtain ⟨a0, b0, c0, rfl⟩ := jar_shape hj
  obtain ⟨a1, b1, c1, rfl⟩ := jar_shape hj1
  obtain ⟨a2, b2, c2, rfl⟩ := jar_shape hj2
  have eu := gd_ok gu
  have ev := gd_ok gv
  have o1 := own_fault_any gu
  have o2 := own_fault_any gv
  obtain ⟨U, hU⟩ : ∃ U, U = faultF u := ⟨_, rfl⟩
  obtain ⟨V, hV⟩ : ∃ V, V = faultF v := ⟨_, rfl⟩
  have gU : gd U = true := by rw [hU]; exact faultF_gd u
  have gV : gd V = true := by rw [hV]; exact faultF_gd v
  have zU : sz U = 1 := by rw [hU]; exact faultF_sz u
  have zV : sz V = 1 := by rw [hV]; exact faultF_sz v
  have eU := gd_ok gU
  have eV := gd_ok gV
  have r1 := times_bad gu gv fu
  have r2 := quot_bad gu gv fu
  have r3 := times_bad2 hp hl gv fv
  have r4 := quot_bad2 hp hl gv fv
  have r5 := quot_bad gu (y := .tup []) rfl fu
  have z3 : Res [0, 0, 0] := Res.zeros 3
  have r6 := quot_zero hp hl z3 (by simp) rfl
  rw [← hU] at o1 r1 r2 r5
  rw [← hV] at o2 r3 r4
  have AU : (Ans.ref "BadPoly" U).ok := ⟨gU, mBP⟩
  have AV : (Ans.ref "BadPoly" V).ok := ⟨gV, mBP⟩
  have AZ : (Ans.ref "Zero" (.tup [.int 0, .int 0, .int 0])).ok := ⟨rfl, mZ⟩
  have r6 : d_quotient [pt p, .tup [.int 0, .int 0, .int 0]] = .ex "Zero" (.tup [.int 0, .int 0, .int 0]) := r6
  have z41 : mulD (.tup [.int 0]) (.int 41) = some (.tup (List.replicate 41 (.int 0))) := rep_tup (.int 0) 41 rfl (by omega)
  have s1 : ∀ g1 : List D → Rt, g1 [.lst true [.int a0, .int b0, .int c0], .lst false odd9] = .ok u [.lst true [.int a1, .int b1, .int c1], .lst false odd9] → (∀ F : SDen, sq (sSet 2 (fz (callD g1 (acons (nm 0) (acons (fz (dsp (.lst true) (acons (cst .non) (acons (fz (dsp (.lst true) (acons (cst (.int 0)) (anil)))) (acons (bin mulD (dsp .tup (acons (cst (.int 0)) (anil))) (cst (.int 41))) (acons (dsp .tup (acons (cst .non) (anil))) (acons (dsp .tup (acons (cst (.int 0)) (acons (uno negD (cst (.int 1))) (anil)))) (acons (dsp .tup (acons (cst (.int 2147483647)) (anil))) (acons (dsp .tup (acons (cst (.int 0)) (acons (cst (.bl true)) (anil)))) (acons (cst (.str "1")) (acons (cst (.int 7)) (anil)))))))))))) (anil)))))) F [.lst true [.int a0, .int b0, .int c0], pt p, .un, .un, .un, .un, .un, .un, .un] = F [.lst true [.int a1, .int b1, .int c1], pt p, u, .un, .un, .un, .un, .un, .un]) := fun g1 h F => by
    have f41 : D.frzs (List.replicate 41 (D.int 0)) = List.replicate 41 (D.int 0) := gds_frz (gds_rep 41 rfl)
    have p41 : D.pls (List.replicate 41 (D.int 0)) = true := gds_pl (gds_rep 41 rfl)
    have n41 : D.nks (List.replicate 41 (D.int 0)) = true := gds_nk (gds_rep 41 rfl)
    unfold odd9 at h
    generalize List.replicate 41 (D.int 0) = R41 at *
    exact sq_nx (by simp [nk0, fnD, outD, sq, ret_eq, retS, sIf, sNil, sExpr, sSet, sPar, sPar3, sAsg, sSto, putAt, onE, onT, andV, orV, notV, andT, orT, notT, ifE, tst, Rz.bind, nm_eq, vl_eq, cst, bin, uno, chn, dsp, acons, anil, callD, okA_nil, okA_val, okA_slot, lendD, wbD, runL, mtD, appL, extL, popL, Hdl.get, valsOf, D.nks, D.nk, D.pl, D.pls, D.frz, D.frzs, isiD, isiB, iop, iopC, ltD, leD, gtD, geD, addD, subD, modD, fdivD, negD, modC, isND, notND, isNB, gN, gT, gU, gC, gNo, lamD, frzAll_nil, frzAll_cons, cloOf, onlyD, fz, astar, sRaise, z41, f41, p41, n41, h, eu.frz])
  have s2 : ∀ g1 : List D → Rt, g1 [.lst true [.int a1, .int b1, .int c1], .lst false bad7] = .ok v [.lst true [.int a2, .int b2, .int c2], .lst false bad7] → (∀ F : SDen, sq (sSet 3 (fz (callD g1 (acons (nm 0) (acons (fz (dsp (.lst true) (acons (cst .non) (acons (fz (dsp (.lst true) (acons (cst (.int 0)) (anil)))) (acons (bin mulD (dsp .tup (acons (cst (.int 0)) (anil))) (cst (.int 41))) (acons (dsp .tup (acons (cst (.int 0)) (acons (cst (.int 0)) (acons (cst .non) (anil))))) (acons (dsp .tup (acons (uno negD (cst (.int 1))) (anil))) (acons (dsp .tup (acons (cst (.int 1)) (acons (cst (.str "1")) (anil)))) (acons (dsp .tup (acons (cst (.bl false)) (anil))) (anil)))))))))) (anil)))))) F [.lst true [.int a1, .int b1, .int c1], pt p, u, .un, .un, .un, .un, .un, .un] = F [.lst true [.int a2, .int b2, .int c2], pt p, u, v, .un, .un, .un, .un, .un]) := fun g1 h F => by
    have f41 : D.frzs (List.replicate 41 (D.int 0)) = List.replicate 41 (D.int 0) := gds_frz (gds_rep 41 rfl)
    have p41 : D.pls (List.replicate 41 (D.int 0)) = true := gds_pl (gds_rep 41 rfl)
    have n41 : D.nks (List.replicate 41 (D.int 0)) = true := gds_nk (gds_rep 41 rfl)
    unfold bad7 at h
    generalize List.replicate 41 (D.int 0) = R41 at *
    exact sq_nx (by simp [nk0, fnD, outD, sq, ret_eq, retS, sIf, sNil, sExpr, sSet, sPar, sPar3, sAsg, sSto, putAt, onE, onT, andV, orV, notV, andT, orT, notT, ifE, tst, Rz.bind, nm_eq, vl_eq, cst, bin, uno, chn, dsp, acons, anil, callD, okA_nil, okA_val, okA_slot, lendD, wbD, runL, mtD, appL, extL, popL, Hdl.get, valsOf, D.nks, D.nk, D.pl, D.pls, D.frz, D.frzs, isiD, isiB, iop, iopC, ltD, leD, gtD, geD, addD, subD, modD, fdivD, negD, modC, isND, notND, isNB, gN, gT, gU, gC, gNo, lamD, frzAll_nil, frzAll_cons, cloOf, onlyD, fz, astar, sRaise, z41, f41, p41, n41, h, ev.frz])
  have s3 : ∀ g1 : List D → Rt, g1 [u] = .ok U [u] → g1 [v] = .ok V [v] → sPar 4 5 (acons (callD g1 (acons (nm 2) (anil))) (acons (callD g1 (acons (nm 3) (anil))) (anil))) [.lst true [.int a2, .int b2, .int c2], pt p, u, v, .un, .un, .un, .un, .un] = .nx [.lst true [.int a2, .int b2, .int c2], pt p, u, v, U, V, .un, .un, .un] := fun g1 h1 h2 => by
    simp [nk0, fnD, outD, sq, ret_eq, retS, sIf, sNil, sExpr, sSet, sPar, sPar3, sAsg, sSto, putAt, onE, onT, andV, orV, notV, andT, orT, notT, ifE, tst, Rz.bind, nm_eq, vl_eq, cst, bin, uno, chn, dsp, acons, anil, callD, okA_nil, okA_val, okA_slot, lendD, wbD, runL, mtD, appL, extL, popL, Hdl.get, valsOf, D.nks, D.nk, D.pl, D.pls, D.frz, D.frzs, isiD, isiB, iop, iopC, ltD, leD, gtD, geD, addD, subD, mulD, modD, fdivD, negD, modC, isND, notND, isNB, gN, gT, gU, gC, gNo, lamD, frzAll_nil, frzAll_cons, cloOf, onlyD, fz, astar, sRaise, h1, h2, eu.un, eu.pl, ev.un, ev.pl]
  have fr23 : ∀ X, frzAll [2, 3] [.lst true [.int a2, .int b2, .int c2], pt p, u, v, U, V, X, .un, .un] = some [.lst true [.int a2, .int b2, .int c2], pt p, u, v, U, V, X, .un, .un] := fun X => by
    simp [frzAll_cons, frzAll_nil, eu.un, eu.nk, eu.frz, ev.un, ev.nk, ev.frz]
  have fr13 : ∀ X, frzAll [1, 3] [.lst true [.int a2, .int b2, .int c2], pt p, u, v, U, V, X, .un, .un] = some [.lst true [.int a2, .int b2, .int c2], pt p, u, v, U, V, X, .un, .un] := fun X => by
    simp [frzAll_cons, frzAll_nil, D.nk, D.frz, nk, fp, ev.un, ev.nk, ev.frz]
  have fr2 : ∀ X, frzAll [2] [.lst true [.int a2, .int b2, .int c2], pt p, u, v, U, V, X, .un, .un] = some [.lst true [.int a2, .int b2, .int c2], pt p, u, v, U, V, X, .un, .un] := fun X => by
    simp [frzAll_cons, frzAll_nil, eu.un, eu.nk, eu.frz]
  have fr1 : ∀ X, frzAll [1] [.lst true [.int a2, .int b2, .int c2], pt p, u, v, U, V, X, .un, .un] = some [.lst true [.int a2, .int b2, .int c2], pt p, u, v, U, V, X, .un, .un] := fun X => by
    simp [frzAll_cons, frzAll_nil, D.nk, D.frz, nk, fp]
  have h1 := fun X => lam_h (fb := callD d_times (acons (nm 2) (acons (nm 3) (anil)))) (cap := [2, 3]) AU (fr23 X) (by simp [Says, onlyD, nk0, fnD, outD, sq, ret_eq, retS, sIf, sNil, sExpr, sSet, sPar, sPar3, sAsg, sSto, putAt, onE, onT, andV, orV, notV, andT, orT, notT, ifE, tst, Rz.bind, nm_eq, vl_eq, cst, bin, uno, chn, dsp, acons, anil, callD, okA_nil, okA_val, okA_slot, lendD, wbD, runL, mtD, appL, extL, popL, Hdl.get, valsOf, D.nks, D.nk, D.pl, D.pls, D.frz, D.frzs, isiD, isiB, iop, iopC, ltD, leD, gtD, geD, addD, subD, mulD, modD, fdivD, negD, modC, isND, notND, isNB, gN, gT, gU, gC, gNo, lamD, frzAll_nil, frzAll_cons, cloOf, onlyD, fz, astar, sRaise, eu.un, eu.pl, eu.nk, ev.un, ev.pl, ev.nk, r1])
  have h2 := fun X => lam_h (fb := callD d_quotient (acons (nm 2) (acons (nm 3) (anil)))) (cap := [2, 3]) AU (fr23 X) (by simp [Says, onlyD, nk0, fnD, outD, sq, ret_eq, retS, sIf, sNil, sExpr, sSet, sPar, sPar3, sAsg, sSto, putAt, onE, onT, andV, orV, notV, andT, orT, notT, ifE, tst, Rz.bind, nm_eq, vl_eq, cst, bin, uno, chn, dsp, acons, anil, callD, okA_nil, okA_val, okA_slot, lendD, wbD, runL, mtD, appL, extL, popL, Hdl.get, valsOf, D.nks, D.nk, D.pl, D.pls, D.frz, D.frzs, isiD, isiB, iop, iopC, ltD, leD, gtD, geD, addD, subD, mulD, modD, fdivD, negD, modC, isND, notND, isNB, gN, gT, gU, gC, gNo, lamD, frzAll_nil, frzAll_cons, cloOf, onlyD, fz, astar, sRaise, eu.un, eu.pl, eu.nk, ev.un, ev.pl, ev.nk, r2])
  have h3 := fun X => lam_h (fb := callD d_times (acons (nm 1) (acons (nm 3) (anil)))) (cap := [1, 3]) AV (fr13 X) (by simp [Says, onlyD, nk0, fnD, outD, sq, ret_eq, retS, sIf, sNil, sExpr, sSet, sPar, sPar3, sAsg, sSto, putAt, onE, onT, andV, orV, notV, andT, orT, notT, ifE, tst, Rz.bind, nm_eq, vl_eq, cst, bin, uno, chn, dsp, acons, anil, callD, okA_nil, okA_val, okA_slot, lendD, wbD, runL, mtD, appL, extL, popL, Hdl.get, valsOf, D.nks, D.nk, D.pl, D.pls, D.frz, D.frzs, isiD, isiB, iop, iopC, ltD, leD, gtD, geD, addD, subD, mulD, modD, fdivD, negD, modC, isND, notND, isNB, gN, gT, gU, gC, gNo, lamD, frzAll_nil, frzAll_cons, cloOf, onlyD, fz, astar, sRaise, pl, nk, ev.un, ev.pl, ev.nk, r3])
  have h4 := fun X => lam_h (fb := callD d_quotient (acons (nm 1) (acons (nm 3) (anil)))) (cap := [1, 3]) AV (fr13 X) (by simp [Says, onlyD, nk0, fnD, outD, sq, ret_eq, retS, sIf, sNil, sExpr, sSet, sPar, sPar3, sAsg, sSto, putAt, onE, onT, andV, orV, notV, andT, orT, notT, ifE, tst, Rz.bind, nm_eq, vl_eq, cst, bin, uno, chn, dsp, acons, anil, callD, okA_nil, okA_val, okA_slot, lendD, wbD, runL, mtD, appL, extL, popL, Hdl.get, valsOf, D.nks, D.nk, D.pl, D.pls, D.frz, D.frzs, isiD, isiB, iop, iopC, ltD, leD, gtD, geD, addD, subD, mulD, modD, fdivD, negD, modC, isND, notND, isNB, gN, gT, gU, gC, gNo, lamD, frzAll_nil, frzAll_cons, cloOf, onlyD, fz, astar, sRaise, pl, nk, ev.un, ev.pl, ev.nk, r4])
  have h5 := fun X => lam_h (fb := callD d_quotient (acons (nm 2) (acons (dsp .tup (anil)) (anil)))) (cap := [2]) AU (fr2 X) (by simp [Says, onlyD, nk0, fnD, outD, sq, ret_eq, retS, sIf, sNil, sExpr, sSet, sPar, sPar3, sAsg, sSto, putAt, onE, onT, andV, orV, notV, andT, orT, notT, ifE, tst, Rz.bind, nm_eq, vl_eq, cst, bin, uno, chn, dsp, acons, anil, callD, okA_nil, okA_val, okA_slot, lendD, wbD, runL, mtD, appL, extL, popL, Hdl.get, valsOf, D.nks, D.nk, D.pl, D.pls, D.frz, D.frzs, isiD, isiB, iop, iopC, ltD, leD, gtD, geD, addD, subD, mulD, modD, fdivD, negD, modC, isND, notND, isNB, gN, gT, gU, gC, gNo, lamD, frzAll_nil, frzAll_cons, cloOf, onlyD, fz, astar, sRaise, eu.un, eu.pl, eu.nk, r5])
  have h6 := fun X => lam_h (fb := callD d_quotient (acons (nm 1) (acons (dsp .tup (acons (cst (.int 0)) (acons (cst (.int 0)) (acons (cst (.int 0)) (anil))))) (anil)))) (cap := [1]) AZ (fr1 X) (by simp [Says, onlyD, nk0, fnD, outD, sq, ret_eq, retS, sIf, sNil, sExpr, sSet, sPar, sPar3, sAsg, sSto, putAt, onE, onT, andV, orV, notV, andT, orT, notT, ifE, tst, Rz.bind, nm_eq, vl_eq, cst, bin, uno, chn, dsp, acons, anil, callD, okA_nil, okA_val, okA_slot, lendD, wbD, runL, mtD, appL, extL, popL, Hdl.get, valsOf, D.nks, D.nk, D.pl, D.pls, D.frz, D.frzs, isiD, isiB, iop, iopC, ltD, leD, gtD, geD, addD, subD, mulD, modD, fdivD, negD, modC, isND, notND, isNB, gN, gT, gU, gC, gNo, lamD, frzAll_nil, frzAll_cons, cloOf, onlyD, fz, astar, sRaise, pl, nk, r6])
  obtain ⟨L, hL⟩ : ∃ L : List D, L = [(Ans.ref "BadPoly" U).D, (Ans.ref "BadPoly" U).D, (Ans.ref "BadPoly" V).D, (Ans.ref "BadPoly" V).D, (Ans.ref "BadPoly" U).D, (Ans.ref "Zero" (.tup [.int 0, .int 0, .int 0])).D] := ⟨_, rfl⟩
  have gL : gds L = true := by
    rw [hL]
    simp only [gds_cons, Ans.gd AU, Ans.gd AV, Ans.gd AZ]
    rfl
  have zL : sz (.tup L) ≤ 900 := by
    rw [hL]
    simp only [Ans.D, sz, szs, zU, zV]
    omega
  have pL : D.pls L = true := gds_pl gL
  have s7 : ∀ X, (sSet 7 (fz (bin addD (fz (bin addD (fz (bin mulD (dsp (.lst true) (acons (dsp .tup (acons (cst (.str "BadPoly")) (acons (vl 4) (anil)))) (anil))) (cst (.int 2)))) (fz (bin mulD (dsp (.lst true) (acons (dsp .tup (acons (cst (.str "BadPoly")) (acons (vl 5) (anil)))) (anil))) (cst (.int 2)))))) (fz (dsp (.lst true) (acons (dsp .tup (acons (cst (.str "BadPoly")) (acons (vl 4) (anil)))) (acons (dsp .tup (acons (cst (.str "Zero")) (acons (dsp .tup (acons (cst (.int 0)) (acons (cst (.int 0)) (acons (cst (.int 0)) (anil))))) (anil)))) (anil)))))))) [.lst true [.int a2, .int b2, .int c2], pt p, u, v, U, V, X, .un, .un] = .nx [.lst true [.int a2, .int b2, .int c2], pt p, u, v, U, V, X, .lst false L, .un] := fun X => by
    have m2 : ∀ d : D, d.pl = true → mulD (.lst true [d]) (.int 2) = some (.lst true [d, d]) := fun d h => by
      show (if D.pls [d] && decide (-1000 ≤ (2 : Int)) && decide ((2 : Int) ≤ 10000) && decide ([d].length * (2 : Int).toNat ≤ 100000) then some (D.lst true (List.replicate (2 : Int).toNat [d]).flatten) else none) = _
      have : D.pls [d] = true := by simp [D.pls, h]
      rw [this]
      rfl
    have pU : D.pl (.tup [.str "BadPoly", U]) = true := gd_pl (Ans.gd AU)
    have pV : D.pl (.tup [.str "BadPoly", V]) = true := gd_pl (Ans.gd AV)
    have mU := m2 _ pU
    have mV := m2 _ pV
    rw [hL]
    simp [nk0, fnD, outD, sq, ret_eq, retS, sIf, sNil, sExpr, sSet, sPar, sPar3, sAsg, sSto, putAt, onE, onT, andV, orV, notV, andT, orT, notT, ifE, tst, Rz.bind, nm_eq, vl_eq, cst, bin, uno, chn, dsp, acons, anil, callD, okA_nil, okA_val, okA_slot, lendD, wbD, runL, mtD, appL, extL, popL, Hdl.get, valsOf, D.nks, D.nk, D.pl, D.pls, D.frz, D.frzs, isiD, isiB, iop, iopC, ltD, leD, gtD, geD, addD, subD, modD, fdivD, negD, modC, isND, notND, isNB, gN, gT, gU, gC, gNo, lamD, frzAll_nil, frzAll_cons, cloOf, onlyD, fz, astar, sRaise, mU, mV, eU.un, eU.pl, eU.frz, eV.un, eV.pl, eV.frz, Ans.D]
  have C := same_refl (d := .tup L) gL zL
  have s8 : ∀ (g1 : List D → Rt) (X Y : SDen), g1 [.tup L, .tup L] = .ok (.bl true) [.tup L, .tup L] → sIf (notT (tst (callD g1 (acons (uno tupleD (nm 6)) (acons (uno tupleD (nm 7)) (anil)))))) X Y [.lst true [.int a2, .int b2, .int c2], pt p, u, v, U, V, .lst true L, .lst false L, .un] = Y [.lst true [.int a2, .int b2, .int c2], pt p, u, v, U, V, .lst true L, .lst false L, .un] := fun g1 X Y h => by
    refine if_f ?_
    simp [nk0, fnD, outD, sq, ret_eq, retS, sIf, sNil, sExpr, sSet, sPar, sPar3, sAsg, sSto, putAt, onE, onT, andV, orV, notV, andT, orT, notT, ifE, tst, Rz.bind, nm_eq, vl_eq, cst, bin, uno, chn, dsp, acons, anil, callD, okA_nil, okA_val, okA_slot, lendD, wbD, runL, mtD, appL, extL, popL, Hdl.get, valsOf, D.nks, D.nk, D.pl, D.pls, D.frz, D.frzs, isiD, isiB, iop, iopC, ltD, leD, gtD, geD, addD, subD, mulD, modD, fdivD, negD, modC, isND, notND, isNB, gN, gT, gU, gC, gNo, lamD, frzAll_nil, frzAll_cons, cloOf, onlyD, fz, astar, sRaise, tupleD, pL, h]
  obtain ⟨τ', e9, s9, rfl⟩ := forL_inv (g := gN 8) (p := rfB) (ds := res7) (τ := [.lst true [.int a2, .int b2, .int c2], pt p, u, v, U, V, .lst true L, .lst false L, .un])
    (fun k τ => ∃ s9, τ = [.lst true [.int a2, .int b2, .int c2], pt p, u, v, U, V, .lst true L, .lst false L, s9]) (fun k d τ hd hI => by
      obtain ⟨s9, rfl⟩ := hI
      obtain ⟨q1, q2, q3⟩ := res7_ok d (List.mem_of_getElem? hd)
      exact ⟨_, _, rfl, .inl (ref_body hp hl q1 q2 q3), d, rfl⟩) ⟨_, rfl⟩
  have s9' : (sFor (seqS (dsp (.lst true) (acons (cst (.int 2147483647)) (acons (uno negD (cst (.int 1))) (acons (cst .non) (acons (cst (.bl true)) (acons (cst (.str "0")) (acons (dsp .tup (acons (cst (.int 0)) (anil))) (acons (bin powD (cst (.int 10)) (cst (.int 30))) (anil)))))))))) (gN 8) (sIf (notT (tst (callD d_law_yv_same (acons (lamD d_law_c2_heard (callD d_value (acons (nm 1) (acons (nm 8) (anil)))) [1, 8] (anil)) (acons (dsp .tup (acons (cst (.str "BadResidue")) (acons (vl 8) (anil)))) (anil)))))) (sRet (cst (.bl false))) (sNil))) [.lst true [.int a2, .int b2, .int c2], pt p, u, v, U, V, .lst true L, .lst false L, .un] = .nx [.lst true [.int a2, .int b2, .int c2], pt p, u, v, U, V, .lst true L, .lst false L, s9] := by
    refine (for_of (ds := res7) (τ1 := [.lst true [.int a2, .int b2, .int c2], pt p, u, v, U, V, .lst true L, .lst false L, .un]) ?_).trans e9
    unfold res7
    simp [seqS, seqOf, Rz.bind, cst, uno, bin, dsp, acons, anil, fz, Hdl.get, valsOf, D.frz, D.frzs, negD, pow30]
  have body : b_law_c2_refused_right [.lst true [.int a0, .int b0, .int c0], pt p, .un, .un, .un, .un, .un, .un, .un] = .rt (.bl true) [.lst true [.int a2, .int b2, .int c2], pt p, u, v, U, V, .lst true L, .lst false L, s9] := by
    refine (s1 _ e1 _).trans ((s2 _ e2 _).trans ((sq_nx (s3 _ o1 o2)).trans ((sq_nx (fst6 (h1 _))).trans ((sq_nx (app6 (h2 _) (by simp))).trans ((sq_nx (app6 (h3 _) (by simp))).trans ((sq_nx (app6 (h4 _) (by simp))).trans ((sq_nx (app6 (h5 _) (by simp))).trans ((sq_nx (app6 (h6 _) (by simp))).trans ((sq_nx (s7 _)).trans ?_)))))))))
    have eL : [(Ans.ref "BadPoly" U).D] ++ [(Ans.ref "BadPoly" U).D] ++ [(Ans.ref "BadPoly" V).D] ++ [(Ans.ref "BadPoly" V).D] ++ [(Ans.ref "BadPoly" U).D] ++ [(Ans.ref "Zero" (.tup [.int 0, .int 0, .int 0])).D] = L := by rw [hL]; rfl
    rw [eL]
    exact (sq_nx (s8 _ _ _ C)).trans ((sq_nx s9').trans rfl)
  exact ⟨_, hj2, (nk0_ok (d := .bl true) rfl (by simp [D.nks, D.nk, nk]) body rfl (by simp [outD, fx_law_c2_refused_right, nkU, D.nk, D.nks, nk])).trans (by simp [outD, fx_law_c2_refused_right])⟩
end Law
end

section
set_option Elab.async false
set_option linter.all false
set_option maxRecDepth 100000
set_option maxHeartbeats 4000000
namespace Law
open Y Num
/-! ### the law -/
abbrev lB : SDen := (sq (sPar 3 4 (acons (callD d_law_c2_poly (acons (nm 1) (acons (cst (.int 40)) (anil)))) (acons (callD d_law_c2_poly (acons (nm 1) (acons (fz (callD d_law_one (acons (nm 1) (acons (fz (dsp (.lst true) (acons (cst (.int 3)) (acons (cst (.int 8)) (acons (cst (.int 20)) (acons (cst (.int 40)) (anil))))))) (anil))))) (anil)))) (anil)))) (sq (sIf (orT (notT (tst (callD d_law_c2_forms_right (acons (nm 1) (acons (nm 3) (anil)))))) (notT (tst (callD d_law_c2_products_right (acons (nm 1) (acons (nm 3) (acons (nm 4) (anil)))))))) (sRet (cst (.bl false))) (sNil)) (sIf (orT (notT (tst (callD d_law_c2_quotients_right (acons (nm 1) (acons (nm 3) (acons (nm 4) (anil))))))) (notT (tst (callD d_law_c2_refused_right (acons (nm 1) (acons (nm 3) (anil))))))) (sRet (cst (.bl false))) (sNil))))
theorem law_turn {ns : List Int} {j x2 x3 x4 : D} {m : Nat} (hj : Jar m j) (hm : m < 50000) : ∃ j' y3 y4, Jar (m + 400) j' ∧ lB [.scr ns, j, x2, x3, x4] = .nx [.scr ns, j', x2, y3, y4] := by
  obtain ⟨p, j1, rp, lp, hj1, e1⟩ := poly_jar (most := 40) hj (by omega) (by omega) (by omega)
  obtain ⟨w, j2, hw, hj2, e2⟩ := one_int (o := false) (xs := [3, 8, 20, 40]) hj1 (by omega) (by simp) (by simp)
  obtain ⟨z, rfl, z1, z2⟩ : ∃ z : Nat, w = (z : Int) ∧ 2 ≤ z ∧ z ≤ 40 := by
    simp only [List.mem_cons, List.not_mem_nil, or_false] at hw
    exact ⟨w.toNat, by omega, by omega, by omega⟩
  obtain ⟨q, j3, rq, lq, hj3, e3⟩ := poly_jar (most := z) hj2 (by omega) z1 z2
  obtain ⟨j4, hj4, e4⟩ := forms_right rp lp hj3 (by omega)
  obtain ⟨j5, hj5, e5⟩ := products_right rp lp rq (by omega) hj4 (by omega)
  obtain ⟨j6, hj6, e6⟩ := quotients_right rp lp rq (by omega) hj5 (by omega)
  obtain ⟨j7, hj7, e7⟩ := refused_right rp lp hj6 (by omega)
  have e1 : d_law_c2_poly [j, .int 40] = .ok (pt p) [j1, .int 40] := e1
  have e2 : d_law_one [j1, .lst false [.int 3, .int 8, .int 20, .int 40]] = .ok (.int (z : Int)) [j2, .lst false [.int 3, .int 8, .int 20, .int 40]] := e2
  have np := iL_nk p
  have pp := iL_pl p
  have nq := iL_nk q
  have pq := iL_pl q
  obtain ⟨a0, b0, c0, rfl⟩ := jar_shape hj
  obtain ⟨a1, b1, c1, rfl⟩ := jar_shape hj1
  obtain ⟨a2, b2, c2, rfl⟩ := jar_shape hj2
  obtain ⟨a3, b3, c3, rfl⟩ := jar_shape hj3
  obtain ⟨a4, b4, c4, rfl⟩ := jar_shape hj4
  obtain ⟨a5, b5, c5, rfl⟩ := jar_shape hj5
  obtain ⟨a6, b6, c6, rfl⟩ := jar_shape hj6
  obtain ⟨a7, b7, c7, rfl⟩ := jar_shape hj7
  refine ⟨_, pt p, pt q, hj7.mono (by omega), ?_⟩
  have o : ∀ (g_law_c2_poly g_law_one g_law_c2_forms_right g_law_c2_products_right g_law_c2_quotients_right g_law_c2_refused_right : List D → Rt), g_law_c2_poly [.lst true [.int a0, .int b0, .int c0], .int 40] = .ok (pt p) [.lst true [.int a1, .int b1, .int c1], .int 40] →
      g_law_one [.lst true [.int a1, .int b1, .int c1], .lst false [.int 3, .int 8, .int 20, .int 40]] = .ok (.int (z : Int)) [.lst true [.int a2, .int b2, .int c2], .lst false [.int 3, .int 8, .int 20, .int 40]] →
      g_law_c2_poly [.lst true [.int a2, .int b2, .int c2], .int (z : Int)] = .ok (pt q) [.lst true [.int a3, .int b3, .int c3], .int (z : Int)] →
      g_law_c2_forms_right [.lst true [.int a3, .int b3, .int c3], pt p] = .ok (.bl true) [.lst true [.int a4, .int b4, .int c4], pt p] →
      g_law_c2_products_right [.lst true [.int a4, .int b4, .int c4], pt p, pt q] = .ok (.bl true) [.lst true [.int a5, .int b5, .int c5], pt p, pt q] →
      g_law_c2_quotients_right [.lst true [.int a5, .int b5, .int c5], pt p, pt q] = .ok (.bl true) [.lst true [.int a6, .int b6, .int c6], pt p, pt q] →
      g_law_c2_refused_right [.lst true [.int a6, .int b6, .int c6], pt p] = .ok (.bl true) [.lst true [.int a7, .int b7, .int c7], pt p] →
      (sq (sPar 3 4 (acons (callD g_law_c2_poly (acons (nm 1) (acons (cst (.int 40)) (anil)))) (acons (callD g_law_c2_poly (acons (nm 1) (acons (fz (callD g_law_one (acons (nm 1) (acons (fz (dsp (.lst true) (acons (cst (.int 3)) (acons (cst (.int 8)) (acons (cst (.int 20)) (acons (cst (.int 40)) (anil))))))) (anil))))) (anil)))) (anil)))) (sq (sIf (orT (notT (tst (callD g_law_c2_forms_right (acons (nm 1) (acons (nm 3) (anil)))))) (notT (tst (callD g_law_c2_products_right (acons (nm 1) (acons (nm 3) (acons (nm 4) (anil)))))))) (sRet (cst (.bl false))) (sNil)) (sIf (orT (notT (tst (callD g_law_c2_quotients_right (acons (nm 1) (acons (nm 3) (acons (nm 4) (anil))))))) (notT (tst (callD g_law_c2_refused_right (acons (nm 1) (acons (nm 3) (anil))))))) (sRet (cst (.bl false))) (sNil)))) [.scr ns, .lst true [.int a0, .int b0, .int c0], x2, x3, x4] = .nx [.scr ns, .lst true [.int a7, .int b7, .int c7], x2, pt p, pt q] := fun g1 g2 g3 g4 g5 g6 h1 h2 h3 h4 h5 h6 h7 => by
    refine (sq_nx (τ1 := [.scr ns, .lst true [.int a3, .int b3, .int c3], x2, pt p, pt q]) (by simp [nk0, fnD, outD, sq, ret_eq, retS, sIf, sNil, sExpr, sSet, sPar, sPar3, sAsg, sSto, putAt, onE, onT, andV, orV, notV, andT, orT, notT, ifE, tst, Rz.bind, nm_eq, vl_eq, cst, bin, uno, chn, dsp, acons, anil, callD, okA_nil, okA_val, okA_slot, lendD, wbD, runL, mtD, appL, extL, popL, Hdl.get, valsOf, D.nks, D.nk, D.pl, D.pls, D.frz, D.frzs, isiD, isiB, iop, iopC, ltD, leD, gtD, geD, addD, subD, mulD, modD, fdivD, negD, modC, isND, notND, isNB, gN, gT, gU, gC, gNo, lamD, frzAll_nil, frzAll_cons, cloOf, onlyD, fz, astar, sRaise, h1, h2, h3])).trans ((sq_nx (τ1 := [.scr ns, .lst true [.int a5, .int b5, .int c5], x2, pt p, pt q]) (by simp [nk0, fnD, outD, sq, ret_eq, retS, sIf, sNil, sExpr, sSet, sPar, sPar3, sAsg, sSto, putAt, onE, onT, andV, orV, notV, andT, orT, notT, ifE, tst, Rz.bind, nm_eq, vl_eq, cst, bin, uno, chn, dsp, acons, anil, callD, okA_nil, okA_val, okA_slot, lendD, wbD, runL, mtD, appL, extL, popL, Hdl.get, valsOf, D.nks, D.nk, D.pl, D.pls, D.frz, D.frzs, isiD, isiB, iop, iopC, ltD, leD, gtD, geD, addD, subD, mulD, modD, fdivD, negD, modC, isND, notND, isNB, gN, gT, gU, gC, gNo, lamD, frzAll_nil, frzAll_cons, cloOf, onlyD, fz, astar, sRaise, h4, h5, pp, pq])).trans (by simp [nk0, fnD, outD, sq, ret_eq, retS, sIf, sNil, sExpr, sSet, sPar, sPar3, sAsg, sSto, putAt, onE, onT, andV, orV, notV, andT, orT, notT, ifE, tst, Rz.bind, nm_eq, vl_eq, cst, bin, uno, chn, dsp, acons, anil, callD, okA_nil, okA_val, okA_slot, lendD, wbD, runL, mtD, appL, extL, popL, Hdl.get, valsOf, D.nks, D.nk, D.pl, D.pls, D.frz, D.frzs, isiD, isiB, iop, iopC, ltD, leD, gtD, geD, addD, subD, mulD, modD, fdivD, negD, modC, isND, notND, isNB, gN, gT, gU, gC, gNo, lamD, frzAll_nil, frzAll_cons, cloOf, onlyD, fz, astar, sRaise, h6, h7, pp, pq]))
  exact o _ _ _ _ _ _ e1 e2 e3 e4 e5 e6 e7
theorem law_of (hand : d_law_c2_hand_right [] = .ok (.bl true) []) (ns : List Int) (hl : ns.length ≤ 63) : ∃ ps, d_law [.scr ns] = .ok (.bl true) ps := by
  obtain ⟨j, hj, e0⟩ := pool_ok hl
  have s0 : (sSet 1 (callD d_law_pool (acons (nm 0) (anil)))) [.scr ns, .un, .un, .un, .un] = .nx [.scr ns, j, .un, .un, .un] := by
    obtain ⟨a0, b0, c0, rfl⟩ := jar_shape hj
    have o : ∀ g : List D → Rt, g [.scr ns] = .ok (.lst true [.int a0, .int b0, .int c0]) [.scr ns] → sSet 1 (callD g (acons (nm 0) (anil))) [.scr ns, .un, .un, .un, .un] = .nx [.scr ns, .lst true [.int a0, .int b0, .int c0], .un, .un, .un] := fun g h => by
      simp [nk0, fnD, outD, sq, sRet, sIf, sNil, sExpr, sSet, sPar, sPar3, sAsg, sSto, putAt, onE, onT, andV, orV, notV, andT, orT, notT, ifE, tst, Rz.bind, nm, vl, cst, bin, uno, chn, dsp, acons, anil, callD, okA, lendD, wbD, runL, mtD, appL, extL, popL, Hdl.get, valsOf, D.nks, D.nk, D.pl, D.pls, D.frz, D.frzs, nkU, isiD, isiB, iop, iopC, ltD, leD, gtD, geD, addD, subD, mulD, modD, fdivD, negD, modC, isND, notND, isNB, ixD, plO, gN, gT, gU, gC, gNo, lamD, frzAll, cloOf, onlyD, fz, astar, sRaise, h]
    exact o _ e0
  obtain ⟨τ', e1, j1, y2, y3, y4, h1, hj1⟩ := forL_inv (g := gN 2) (p := lB) (ds := (List.range 6).map fun (k : Nat) => D.int (k : Int)) (τ := [.scr ns, j, .un, .un, .un])
    (fun i τ => ∃ j' y2 y3 y4, τ = [.scr ns, j', y2, y3, y4] ∧ Jar (400 * i) j') (fun i d τ hd hI => by
      obtain ⟨j', y2, y3, y4, rfl, hj'⟩ := hI
      obtain ⟨hi, rfl⟩ := range_i hd
      obtain ⟨j2, z3, z4, hj2, e2⟩ := law_turn (ns := ns) (x2 := .int (i : Int)) (x3 := y3) (x4 := y4) hj' (by omega)
      exact ⟨_, _, rfl, .inl e2, j2, _, z3, z4, rfl, by rw [show 400 * (i + 1) = 400 * i + 400 by omega]; exact hj2⟩) ⟨j, .un, .un, .un, rfl, hj⟩
  subst h1
  have hs : rgS1 (cst (.int 6)) [.scr ns, j, .un, .un, .un] = .ok ((List.range 6).map fun (k : Nat) => D.int (k : Int)) [.scr ns, j, .un, .un, .un] := rgS1_of (h := .val (.int (6 : Nat))) rfl rfl (by omega)
  obtain ⟨a1, b1, c1, rfl⟩ := jar_shape hj1
  have last : (sRet (callD d_law_c2_hand_right anil)) [.scr ns, .lst true [.int a1, .int b1, .int c1], y2, y3, y4] = .rt (.bl true) [.scr ns, .lst true [.int a1, .int b1, .int c1], y2, y3, y4] := by
    have o : ∀ g1 : List D → Rt, g1 [] = .ok (.bl true) [] → sRet (callD g1 anil) [.scr ns, .lst true [.int a1, .int b1, .int c1], y2, y3, y4] = .rt (.bl true) [.scr ns, .lst true [.int a1, .int b1, .int c1], y2, y3, y4] := fun g1 h1 => by
      simp [nk0, fnD, outD, sq, sRet, sIf, sNil, sExpr, sSet, sPar, sPar3, sAsg, sSto, putAt, onE, onT, andV, orV, notV, andT, orT, notT, ifE, tst, Rz.bind, nm, vl, cst, bin, uno, chn, dsp, acons, anil, callD, okA, lendD, wbD, runL, mtD, appL, extL, popL, Hdl.get, valsOf, D.nks, D.nk, D.pl, D.pls, D.frz, D.frzs, nkU, isiD, isiB, iop, iopC, ltD, leD, gtD, geD, addD, subD, mulD, modD, fdivD, negD, modC, isND, notND, isNB, ixD, plO, gN, gT, gU, gC, gNo, lamD, frzAll, cloOf, onlyD, fz, astar, sRaise, h1]
    exact o _ hand
  have body := (sq_nx s0).trans ((sq_nx ((for_of hs).trans e1)).trans last)
  exact ⟨_, nk0_ok (np := 1) (n := 5) (fx := fx_law) (args := [.scr ns]) rfl (by rfl) body (by rfl) (by simp [outD, fx_law])⟩
end Law
end

section
set_option Elab.async false
set_option linter.all false
set_option maxRecDepth 100000
set_option maxHeartbeats 4000000
namespace Law
open Y Num
def okT : Rt → Nat
  | .ok (.bl true) [] => 1
  | _ => 0
theorem hand_ok : okT (d_law_c2_hand_right []) = 1 := by decide +kernel
theorem hand_right : d_law_c2_hand_right [] = .ok (.bl true) [] := by
  have h := hand_ok
  cases e : d_law_c2_hand_right [] with
  | bad => rw [e] at h; cases h
  | ex n d => rw [e] at h; cases h
  | ok d ps =>
    rw [e] at h
    cases d <;> first | (cases h; done) | skip
    rename_i b
    cases b <;> first | (cases h; done) | skip
    cases ps <;> first | rfl | cases h
theorem law_den (ns : List Int) (hl : ns.length ≤ 63) (hb : ∀ z ∈ ns, PySem.Builtin.Int.intBits z ≤ 1048576) : ∃ ps, d_law [.scr ns] = .ok (.bl true) ps := law_of hand_right ns hl
end Law
end

section
set_option Elab.async false
set_option linter.all false
set_option maxRecDepth 100000
set_option maxHeartbeats 0
open PySem PySem.W PySem.Calls PyProof.Rows in
theorem PySem.Challenge.cw_liesborne_k02_polys_at_work_holds : PySem.Challenge.rw_liesborne_k02_polys_at_work.Holds := by
  w_on; o_law
  refine HandSHeadRun.head_any (r := OpenLaw.row PySem.Challenge.rw_liesborne_k02_polys_at_work) (q := view (OpenLaw.row PySem.Challenge.rw_liesborne_k02_polys_at_work).prog [46]) (H := Law.hk) (ob := Law.ob) (M := 4000) (loose := Law.loose) (d := HandSHeadRun.topDef (OpenLaw.row PySem.Challenge.rw_liesborne_k02_polys_at_work).prog 46) (kwd := []) Law.ob_eq
    (by kernel_rfl) (fun s => by kernel_rfl) Law.run (by kernel_rfl) (by kernel_rfl) (by kernel_rfl) (by rfl) (by first | assumption | decide +kernel) (by decide +kernel) ⟨rfl, rfl, rfl, rfl, rfl, by decide +kernel⟩ ?hw ?hc
  case hw => w_witness2
  case hc =>
    refine LamX.walk_ofTsE (l := PySem.Challenge.rw_liesborne_k02_polys_at_work) (n := 63) (k := 13) (x := "script") (CX := fun w => L2N.CX PySem.Challenge.rw_liesborne_k02_polys_at_work.prog w) rfl (by decide) (by kernel_rfl) ⟨rfl, by decide, by decide⟩ ?F (fun w H s e s' z => ?_)
    case F =>
      intro w mg fa h Y G hmg0
      have hmg : mg ("law" : PySem.Str) = some (.ref fa) := by
        have e : (HandSHeadRun.topDef (OpenLaw.row PySem.Challenge.rw_liesborne_k02_polys_at_work).prog 46).name = ("law" : PySem.Str) := by kernel_rfl
        rw [← e]
        exact hmg0
      exact Law.law_atK Law.law_den w mg fa h Y G hmg
    obtain ⟨_, _, _, _, _, _, _, _, _, _, _, _, z⟩ := z
    exact z
end
