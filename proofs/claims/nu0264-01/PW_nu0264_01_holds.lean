import PyProof.Rows.All
import Wide.All
import OpenK.AllK
import Wide.FinOn
import PySem.Challenge.RW_nu0264_01
open PySem PySem.W PyProof.Rows
set_option Elab.async false
section
open PySem PySem.W PyProof.Rows
set_option Elab.async false
set_option maxRecDepth 100000
namespace Mine

/-- what a value of the program stands for -/
inductive AV where
  | int (i : Int)
  | bool (b : Bool)
  | none
  | str (s : Str)
  | tup (l : List AV)
  | list (l : List AV)
  | rng (n : Nat)
  | rows (l : List (List Int))
  | ikeys (l : List Int)
  | groups (G : Int → Option (List (List Int)))
  | val (v : Value)
  | the (v : Value) (a : AV)

noncomputable abbrev row (r : List Int) : AV := .tup (r.map .int)
noncomputable abbrev rowsT (S : List (List Int)) : AV := .tup (S.map row)
noncomputable abbrev rowsL (S : List (List Int)) : AV := .list (S.map row)

noncomputable def rowHash (ks : List Int) : Int := reduceHash (Builtin.Tuple.tupleHashOf (ks.map hashInt))

noncomputable def IsRow (h : Heap) (a : Addr) (r : List Int) : Prop := ∃ vs n, h.get? a = some (seqObj "tuple" vs n) ∧ IntsAre vs.toList r

noncomputable def IsRows (X : Addr → Prop) (h : Heap) (d : Addr) (xs : List (List Int × Addr × Value)) : Prop :=
  ∃ es ep, h.get? d = some { cls := .type "dict", data := .dict es ep } ∧ es.toList = xs.map (fun x => (⟨rowHash x.1, .ref x.2.1, x.2.2⟩ : DictEntry)) ∧
    (∀ x ∈ xs, ¬ X x.2.1 ∧ IsRow h x.2.1 x.1) ∧ (xs.map (·.1)).Nodup

noncomputable def IsInts (h : Heap) (d : Addr) (f : Int → Option Value) : Prop :=
  ∃ es ep, h.get? d = some { cls := .type "dict", data := .dict es ep } ∧ IntKeys es ∧ ∀ k, findBy Value.isInt es k = f k

noncomputable def IsRowsL (X : Addr → Prop) (h : Heap) (a : Addr) (S : List (List Int)) : Prop :=
  ∃ vs n, h.get? a = some (seqObj "list" vs n) ∧ vs.size = S.length ∧ ∀ (i : Nat) (v : Value), vs[i]? = some v → ∃ b r, v = .ref b ∧ S[i]? = some r ∧ ¬ X b ∧ IsRow h b r

mutual
noncomputable def Rel (X : Addr → Prop) (h : Heap) : AV → Value → Prop
  | .int i, v => ∃ t, v = .int i t
  | .bool b, v => v = .bool b
  | .none, v => v = .none
  | .str s, v => ∃ t, v = .str s t
  | .tup l, v => ∃ a vs n, v = .ref a ∧ ¬ X a ∧ h.get? a = some (seqObj "tuple" (List.toArray vs) n) ∧ RelL X h l vs
  | .list l, v => ∃ a vs n, v = .ref a ∧ ¬ X a ∧ h.get? a = some (seqObj "list" (List.toArray vs) n) ∧ RelL X h l vs
  | .rng n, v => ∃ a t u z, v = .ref a ∧ ¬ X a ∧ IsRange h a 0 n 1 t u z
  | .rows l, v => ∃ d xs, v = .ref d ∧ ¬ X d ∧ d ≠ sysModules ∧ IsRows X h d xs ∧ xs.map (·.1) = l
  | .ikeys l, v => ∃ d f, v = .ref d ∧ ¬ X d ∧ d ≠ sysModules ∧ IsInts h d f ∧ ∀ k, (f k).isSome = decide (k ∈ l)
  | .groups G, v => ∃ d f, v = .ref d ∧ ¬ X d ∧ d ≠ sysModules ∧ IsInts h d f ∧ ∀ k, (f k = none ∧ G k = none) ∨ ∃ a S, f k = some (.ref a) ∧ G k = some S ∧ ¬ X a ∧ IsRowsL X h a S
  | .val u, v => v = u
  | .the u a, v => v = u ∧ Rel X h a v
noncomputable def RelL (X : Addr → Prop) (h : Heap) : List AV → List Value → Prop
  | [], [] => True
  | a :: l, v :: vs => Rel X h a v ∧ RelL X h l vs
  | _, _ => False
end

theorem IsRow.move {h h' : Heap} {a : Addr} {r : List Int} (x : IsRow h a r) (e : ∀ o, h.get? a = some o → h'.get? a = some o) : IsRow h' a r :=
  let ⟨vs, n, ho, hi⟩ := x; ⟨vs, n, e _ ho, hi⟩

section
variable {X X' : Addr → Prop} {h h' : Heap}

/-- from a heap to another that bears what the first one bears off X -/
noncomputable def Move (X : Addr → Prop) (h : Heap) (X' : Addr → Prop) (h' : Heap) : Prop := ∀ b o, ¬ X b → h.get? b = some o → ¬ X' b ∧ h'.get? b = some o

theorem IsRows.move (M : Move X h X' h') {d : Addr} {xs} (hd : ¬ X d) (x : IsRows X h d xs) : IsRows X' h' d xs := by
  obtain ⟨es, ep, ho, he, hr, hn⟩ := x
  refine ⟨es, ep, (M _ _ hd ho).2, he, fun y hy => ?_, hn⟩
  obtain ⟨h1, vs, n, h2, h3⟩ := hr y hy
  exact ⟨(M _ _ h1 h2).1, vs, n, (M _ _ h1 h2).2, h3⟩
theorem IsInts.move (M : Move X h X' h') {d : Addr} {f} (hd : ¬ X d) (x : IsInts h d f) : IsInts h' d f := by
  obtain ⟨es, ep, ho, r⟩ := x
  exact ⟨es, ep, (M _ _ hd ho).2, r⟩
theorem IsRowsL.move (M : Move X h X' h') {a : Addr} {S} (ha : ¬ X a) (x : IsRowsL X h a S) : IsRowsL X' h' a S := by
  obtain ⟨vs, n, ho, hz, hr⟩ := x
  refine ⟨vs, n, (M _ _ ha ho).2, hz, fun i v hv => ?_⟩
  obtain ⟨b, r, rfl, hs, hb, us, k, hg, hi⟩ := hr i v hv
  exact ⟨b, r, rfl, hs, (M _ _ hb hg).1, us, k, (M _ _ hb hg).2, hi⟩
theorem IsRowsL.lv {a : Addr} {S} (x : IsRowsL X h a S) : ∃ o, h.get? a = some o := let ⟨_, _, ho, _⟩ := x; ⟨_, ho⟩
theorem IsInts.lv {a : Addr} {f} (x : IsInts h a f) : ∃ o, h.get? a = some o := let ⟨_, _, ho, _⟩ := x; ⟨_, ho⟩
theorem IsRows.lv {a : Addr} {f} (x : IsRows X h a f) : ∃ o, h.get? a = some o := let ⟨_, _, ho, _⟩ := x; ⟨_, ho⟩

mutual
theorem Rel.move (M : Move X h X' h') : ∀ (av : AV) (v : Value), Rel X h av v → Rel X' h' av v
  | .int _, _, r => by simpa only [Rel] using r
  | .bool _, _, r => by simpa only [Rel] using r
  | .none, _, r => by simpa only [Rel] using r
  | .str _, _, r => by simpa only [Rel] using r
  | .val _, _, r => by simpa only [Rel] using r
  | .the _ a, v, r => by simp only [Rel] at r ⊢; exact ⟨r.1, Rel.move M a v r.2⟩
  | .tup l, v, r => by
    simp only [Rel] at r ⊢
    obtain ⟨a, vs, n, e, ha, ho, hl⟩ := r
    exact ⟨a, vs, n, e, (M _ _ ha ho).1, (M _ _ ha ho).2, RelL.move M l vs hl⟩
  | .list l, v, r => by
    simp only [Rel] at r ⊢
    obtain ⟨a, vs, n, e, ha, ho, hl⟩ := r
    exact ⟨a, vs, n, e, (M _ _ ha ho).1, (M _ _ ha ho).2, RelL.move M l vs hl⟩
  | .rng n, v, r => by
    simp only [Rel] at r ⊢
    obtain ⟨a, t, u, z, e, ha, ho⟩ := r
    exact ⟨a, t, u, z, e, (M _ _ ha ho).1, (M _ _ ha ho).2⟩
  | .rows l, v, r => by
    simp only [Rel] at r ⊢
    obtain ⟨d, xs, e, hd, hs, hx, hm⟩ := r
    obtain ⟨o, ho⟩ := hx.lv
    exact ⟨d, xs, e, (M _ _ hd ho).1, hs, hx.move M hd, hm⟩
  | .ikeys l, v, r => by
    simp only [Rel] at r ⊢
    obtain ⟨d, f, e, hd, hs, hx, hm⟩ := r
    obtain ⟨o, ho⟩ := hx.lv
    exact ⟨d, f, e, (M _ _ hd ho).1, hs, hx.move M hd, hm⟩
  | .groups G, v, r => by
    simp only [Rel] at r ⊢
    obtain ⟨d, f, e, hd, hs, hx, hm⟩ := r
    obtain ⟨o, ho⟩ := hx.lv
    refine ⟨d, f, e, (M _ _ hd ho).1, hs, hx.move M hd, fun k => (hm k).imp id ?_⟩
    rintro ⟨a, S, h1, h2, h3, h4⟩
    obtain ⟨o', ho'⟩ := h4.lv
    exact ⟨a, S, h1, h2, (M _ _ h3 ho').1, h4.move M h3⟩
theorem RelL.move (M : Move X h X' h') : ∀ (l : List AV) (vs : List Value), RelL X h l vs → RelL X' h' l vs
  | [], [], _ => by simp only [RelL]
  | [], _ :: _, r => by simp only [RelL] at r
  | _ :: _, [], r => by simp only [RelL] at r
  | a :: l, v :: vs, r => by
    simp only [RelL] at r ⊢
    exact ⟨Rel.move M a v r.1, RelL.move M l vs r.2⟩
end
end

noncomputable def Kp (h h' : Heap) : Prop := ∀ b o, h.get? b = some o → h'.get? b = some o
noncomputable def KpX (Z : Addr → Prop) (h h' : Heap) : Prop := ∀ b o, ¬ Z b → h.get? b = some o → h'.get? b = some o
theorem Kp.trans {a b c : Heap} (x : Kp a b) (y : Kp b c) : Kp a c := fun d o e => y d o (x d o e)
theorem KpX.trans {Z : Addr → Prop} {a b c : Heap} (x : KpX Z a b) (y : KpX Z b c) : KpX Z a c := fun d o z e => y d o z (x d o z e)
theorem Kp.x {Z : Addr → Prop} {a b : Heap} (x : Kp a b) : KpX Z a b := fun d o _ e => x d o e
theorem KpX.mono {Z Z' : Addr → Prop} {a b : Heap} (x : KpX Z a b) (hz : ∀ b, Z b → Z' b) : KpX Z' a b := fun d o z e => x d o (fun q => z (hz _ q)) e
theorem KpX.move {X : Addr → Prop} {h h' : Heap} (x : KpX X h h') : Move X h X h' := fun b o hb e => ⟨hb, x b o hb e⟩
theorem Kp.move {X : Addr → Prop} {h h' : Heap} (x : Kp h h') : Move X h X h' := fun b o hb e => ⟨hb, x b o e⟩
theorem Move.less {X X' : Addr → Prop} {h : Heap} (hx : ∀ b, X' b → X b) : Move X h X' h := fun b _ hb e => ⟨fun q => hb (hx b q), e⟩
theorem Move.more {X X' : Addr → Prop} {h : Heap} (hx : ∀ b, X' b → X b ∨ h.get? b = none) : Move X h X' h := fun b o hb e => ⟨fun q => (hx b q).elim hb (fun n => by rw [n] at e; cases e), e⟩

noncomputable def KeepsX (Z : Addr → Prop) (s s' : Shared) : Prop := ∃ h' tk, s' = { s with heap := h', toks := tk } ∧ KpX Z s.heap h'
theorem keeps_kp {s s' : Shared} (k : Keeps s s') : Kp s.heap s'.heap := by obtain ⟨h', tk, rfl, k⟩ := k; exact k
theorem KeepsX.kp {Z : Addr → Prop} {s s' : Shared} (k : KeepsX Z s s') : KpX Z s.heap s'.heap := by obtain ⟨h', tk, rfl, k⟩ := k; exact k
theorem keeps_refl (s : Shared) : Keeps s s := ⟨s.heap, s.toks, rfl, fun _ _ e => e⟩
theorem keeps_tok (s : Shared) (t : Nat) : Keeps s { s with toks := t } := ⟨s.heap, t, rfl, fun _ _ e => e⟩
theorem keeps_trans {a b c : Shared} (x : Keeps a b) (y : Keeps b c) : Keeps a c := by
  obtain ⟨h, t, rfl, k⟩ := x; obtain ⟨h', t', rfl, k'⟩ := y
  exact ⟨h', t', rfl, fun b o e => k' b o (k b o e)⟩
theorem keeps_x {Z : Addr → Prop} {s s' : Shared} (k : Keeps s s') : KeepsX Z s s' := by obtain ⟨h', tk, e, k⟩ := k; exact ⟨h', tk, e, fun b o _ q => k b o q⟩
theorem KeepsX.refl (Z : Addr → Prop) (s : Shared) : KeepsX Z s s := keeps_x (keeps_refl s)
theorem KeepsX.trans {Z : Addr → Prop} {a b c : Shared} (x : KeepsX Z a b) (y : KeepsX Z b c) : KeepsX Z a c := by
  obtain ⟨h, t, rfl, k⟩ := x; obtain ⟨h', t', rfl, k'⟩ := y
  exact ⟨h', t', rfl, k.trans k'⟩
theorem KeepsX.mono {Z Z' : Addr → Prop} {a b : Shared} (x : KeepsX Z a b) (hz : ∀ b, Z b → Z' b) : KeepsX Z' a b := by
  obtain ⟨h, t, rfl, k⟩ := x; exact ⟨h, t, rfl, k.mono hz⟩

end Mine
end

section
open PySem PySem.W PyProof.Rows
set_option Elab.async false
set_option maxRecDepth 100000
namespace Mine
noncomputable abbrev P0 : Program := PySem.Challenge.pw_nu0264_01
noncomputable def defOf? : Option Stmt → Option DefRec
  | some (.FunctionDef n a b _ _ _ sc _ _ pos) => some ⟨n, a, b, sc, pos⟩
  | _ => none
noncomputable def Dset_of : { d : DefRec // defOf? P0.main.body[1]? = some d } := ⟨⟨_, _, _, ⟨_, _, _, _, _⟩, _⟩, rfl⟩
noncomputable abbrev Fset_of : DefRec := Dset_of.1
noncomputable def Darity_of : { d : DefRec // defOf? P0.main.body[2]? = some d } := ⟨⟨_, _, _, ⟨_, _, _, _, _⟩, _⟩, rfl⟩
noncomputable abbrev Farity_of : DefRec := Darity_of.1
noncomputable def Diden_of : { d : DefRec // defOf? P0.main.body[3]? = some d } := ⟨⟨_, _, _, ⟨_, _, _, _, _⟩, _⟩, rfl⟩
noncomputable abbrev Fiden_of : DefRec := Diden_of.1
noncomputable def Dunion : { d : DefRec // defOf? P0.main.body[4]? = some d } := ⟨⟨_, _, _, ⟨_, _, _, _, _⟩, _⟩, rfl⟩
noncomputable abbrev Funion : DefRec := Dunion.1
noncomputable def Dmeet : { d : DefRec // defOf? P0.main.body[5]? = some d } := ⟨⟨_, _, _, ⟨_, _, _, _, _⟩, _⟩, rfl⟩
noncomputable abbrev Fmeet : DefRec := Dmeet.1
noncomputable def Dminus : { d : DefRec // defOf? P0.main.body[6]? = some d } := ⟨⟨_, _, _, ⟨_, _, _, _, _⟩, _⟩, rfl⟩
noncomputable abbrev Fminus : DefRec := Dminus.1
noncomputable def Dis_within : { d : DefRec // defOf? P0.main.body[7]? = some d } := ⟨⟨_, _, _, ⟨_, _, _, _, _⟩, _⟩, rfl⟩
noncomputable abbrev Fis_within : DefRec := Dis_within.1
noncomputable def Dproduct : { d : DefRec // defOf? P0.main.body[8]? = some d } := ⟨⟨_, _, _, ⟨_, _, _, _, _⟩, _⟩, rfl⟩
noncomputable abbrev Fproduct : DefRec := Dproduct.1
noncomputable def Djoin : { d : DefRec // defOf? P0.main.body[9]? = some d } := ⟨⟨_, _, _, ⟨_, _, _, _, _⟩, _⟩, rfl⟩
noncomputable abbrev Fjoin : DefRec := Djoin.1
noncomputable def Dturned : { d : DefRec // defOf? P0.main.body[10]? = some d } := ⟨⟨_, _, _, ⟨_, _, _, _, _⟩, _⟩, rfl⟩
noncomputable abbrev Fturned : DefRec := Dturned.1
noncomputable def Dclosure : { d : DefRec // defOf? P0.main.body[11]? = some d } := ⟨⟨_, _, _, ⟨_, _, _, _, _⟩, _⟩, rfl⟩
noncomputable abbrev Fclosure : DefRec := Dclosure.1
noncomputable def Dstar : { d : DefRec // defOf? P0.main.body[12]? = some d } := ⟨⟨_, _, _, ⟨_, _, _, _, _⟩, _⟩, rfl⟩
noncomputable abbrev Fstar : DefRec := Dstar.1
noncomputable def Doverride : { d : DefRec // defOf? P0.main.body[13]? = some d } := ⟨⟨_, _, _, ⟨_, _, _, _, _⟩, _⟩, rfl⟩
noncomputable abbrev Foverride : DefRec := Doverride.1
noncomputable def Dahead : { d : DefRec // defOf? P0.main.body[14]? = some d } := ⟨⟨_, _, _, ⟨_, _, _, _, _⟩, _⟩, rfl⟩
noncomputable abbrev Fahead : DefRec := Dahead.1
noncomputable def Dbehind : { d : DefRec // defOf? P0.main.body[15]? = some d } := ⟨⟨_, _, _, ⟨_, _, _, _, _⟩, _⟩, rfl⟩
noncomputable abbrev Fbehind : DefRec := Dbehind.1
noncomputable def Dlaw_draw : { d : DefRec // defOf? P0.main.body[17]? = some d } := ⟨⟨_, _, _, ⟨_, _, _, _, _⟩, _⟩, rfl⟩
noncomputable abbrev Flaw_draw : DefRec := Dlaw_draw.1
noncomputable def Dlaw_rows : { d : DefRec // defOf? P0.main.body[18]? = some d } := ⟨⟨_, _, _, ⟨_, _, _, _, _⟩, _⟩, rfl⟩
noncomputable abbrev Flaw_rows : DefRec := Dlaw_rows.1
noncomputable def Dlaw_drawn : { d : DefRec // defOf? P0.main.body[19]? = some d } := ⟨⟨_, _, _, ⟨_, _, _, _, _⟩, _⟩, rfl⟩
noncomputable abbrev Flaw_drawn : DefRec := Dlaw_drawn.1
noncomputable def Dlaw_known : { d : DefRec // defOf? P0.main.body[20]? = some d } := ⟨⟨_, _, _, ⟨_, _, _, _, _⟩, _⟩, rfl⟩
noncomputable abbrev Flaw_known : DefRec := Dlaw_known.1
noncomputable def Dlaw_reached : { d : DefRec // defOf? P0.main.body[21]? = some d } := ⟨⟨_, _, _, ⟨_, _, _, _, _⟩, _⟩, rfl⟩
noncomputable abbrev Flaw_reached : DefRec := Dlaw_reached.1
noncomputable def Dlaw_is_in : { d : DefRec // defOf? P0.main.body[22]? = some d } := ⟨⟨_, _, _, ⟨_, _, _, _, _⟩, _⟩, rfl⟩
noncomputable abbrev Flaw_is_in : DefRec := Dlaw_is_in.1
noncomputable def Dlaw_done : { d : DefRec // defOf? P0.main.body[23]? = some d } := ⟨⟨_, _, _, ⟨_, _, _, _, _⟩, _⟩, rfl⟩
noncomputable abbrev Flaw_done : DefRec := Dlaw_done.1
noncomputable def Dlaw_fits : { d : DefRec // defOf? P0.main.body[24]? = some d } := ⟨⟨_, _, _, ⟨_, _, _, _, _⟩, _⟩, rfl⟩
noncomputable abbrev Flaw_fits : DefRec := Dlaw_fits.1
noncomputable def Dlaw_picked : { d : DefRec // defOf? P0.main.body[25]? = some d } := ⟨⟨_, _, _, ⟨_, _, _, _, _⟩, _⟩, rfl⟩
noncomputable abbrev Flaw_picked : DefRec := Dlaw_picked.1
noncomputable def Dlaw_is_whole : { d : DefRec // defOf? P0.main.body[26]? = some d } := ⟨⟨_, _, _, ⟨_, _, _, _, _⟩, _⟩, rfl⟩
noncomputable abbrev Flaw_is_whole : DefRec := Dlaw_is_whole.1
noncomputable def Dlaw : { d : DefRec // defOf? P0.main.body[27]? = some d } := ⟨⟨_, _, _, ⟨_, _, _, _, _⟩, _⟩, rfl⟩
noncomputable abbrev Flaw : DefRec := Dlaw.1
end Mine
end

section
open PySem PySem.W PyProof.Rows
set_option Elab.async false
set_option maxRecDepth 100000
namespace Mine

noncomputable def recs : List DefRec := [Fset_of, Farity_of, Fiden_of, Funion, Fmeet, Fminus, Fis_within, Fproduct, Fjoin, Fturned, Fclosure, Fstar, Foverride, Fahead, Fbehind, Flaw_draw, Flaw_rows, Flaw_drawn, Flaw_known, Flaw_reached, Flaw_is_in, Flaw_done, Flaw_fits, Flaw_picked, Flaw_is_whole, Flaw]
noncomputable def bnames : List Str := ["tuple", "sorted", "dict", "len", "range", "list", "isinstance"]

/-- the ground: what stands when the law is called -/
structure Gnd (g : Heap) (mg mb : Str → Option Value) : Prop where
  ns : g.Ns mainGlobals mg
  bs : g.Ns builtinsNs mb
  nl : g.NoLimit
  sy : ∃ o, g.get? sysModules = some o
  fn : ∀ d ∈ recs, ∃ a o pm code doc, mg d.name = some (.ref a) ∧ g.get? a = some o ∧ o.data = .func (Calls.docDef d.name d.params d.body d.scope pm code doc) ∧ g.CodeRec code d.name
  bi : ∀ x ∈ bnames, mg x = none ∧ mb x = bootBuiltins x

structure Fm (g : Heap) (env : Env) (X : Addr → Prop) : Prop where
  fk : env.scope.kind = .function
  gl : env.globals = mainGlobals
  bl : env.builtins = builtinsNs
  xl : X env.locals
  xc : ∀ n c, env.cells.lookup n = some c → X c ∧ c ≠ env.locals
  inj : ∀ n n' c, env.cells.lookup n = some c → env.cells.lookup n' = some c → n = n'
  xg : ∀ b, X b → g.get? b = none

structure St (g : Heap) (env : Env) (X : Addr → Prop) (σ : List (Str × AV)) (h : Heap) : Prop where
  kg : Kp g h
  ns : ∃ m, h.Ns env.locals m ∧ ∀ x av, σ.lookup x = some av → env.kindOf x = some .local → ∃ v, m x = some v ∧ Rel X h av v
  cl : ∀ n c, env.cells.lookup n = some c → ∃ u, h.IsCell c u ∧ ∀ av, σ.lookup n = some av → (env.kindOf n = some .cell ∨ env.kindOf n = some .free) → ∃ v, u = some v ∧ Rel X h av v
  lv : ∀ b, X b → ∃ o, h.get? b = some o

theorem St.keep {g env X σ h h'} (S : St g env X σ h) (k : Kp h h') : St g env X σ h' where
  kg := S.kg.trans k
  ns := by
    obtain ⟨m, hn, hm⟩ := S.ns
    refine ⟨m, hn.keeps k, fun x av hx hk => ?_⟩
    obtain ⟨v, hv, r⟩ := hm x av hx hk
    exact ⟨v, hv, r.move k.move⟩
  cl := fun n c hc => by
    obtain ⟨u, hu, hv⟩ := S.cl n c hc
    refine ⟨u, hu.keeps k, fun av ha hk => ?_⟩
    obtain ⟨v, h1, r⟩ := hv av ha hk
    exact ⟨v, h1, r.move k.move⟩
  lv := fun b hb => let ⟨o, ho⟩ := S.lv b hb; ⟨o, k b o ho⟩

noncomputable abbrev F0 : Value → Shared → Prop := fun _ _ => False

structure Room (d : Nat) (A : Around) : Prop where
  hh : A.handled = none
  dp : A.depth + d < recursionLimit
  un : A.units + 8 * d < cLine

theorem Room.deeper {d A env} (R : Room (d + 1) A) : Room d (A.deeper env) := ⟨R.hh, by have := R.dp; show A.depth + 1 + d < _; omega, by have := R.un; show A.units + 3 + 8 * d < _; omega⟩
theorem Room.in1 {d A} (R : Room (d + 1) A) : Room d A.in1 := ⟨R.hh, by have := R.dp; show A.depth + d < _; omega, by have := R.un; show A.units + 1 + 8 * d < _; omega⟩
theorem Room.le {d d' A} (R : Room d A) (h : d' ≤ d) : Room d' A := ⟨R.hh, by have := R.dp; omega, by have := R.un; omega⟩
theorem Room.u {d A} (R : Room d A) : A.units < cLine := by have := R.un; omega
theorem Room.u2 {d A} (R : Room (d + 1) A) : A.units + 1 + 1 < cLine := by have := R.un; omega
theorem Room.d {d A} (R : Room (d + 1) A) : A.depth < recursionLimit := by have := R.dp; omega

section
variable (prog : Program) (w : World) (g : Heap) (A : Around) (env : Env) (X : Addr → Prop) (σ : List (Str × AV))

noncomputable def Ev (e : Expr) (r : AV) : Prop := ∀ s : Shared, St g env X σ s.heap → wpAny (model prog w) A (eval e env) (fun v s' => Keeps s s' ∧ Rel X s'.heap r v) F0 s
noncomputable def Tr (e : Expr) (b : Bool) : Prop := ∀ s : Shared, St g env X σ s.heap → wpAny (model prog w) A (isTrue e env (eval e env)) (fun c s' => Keeps s s' ∧ c = b) F0 s
noncomputable def EvL : List Expr → List AV → Prop
  | [], [] => True
  | e :: es, r :: rs => Ev prog w g A env X σ e r ∧ starEach (e :: es) env = (false, eval e env) :: starEach es env ∧ EvL es rs
  | _, _ => False

/-- what a call of f upon values that stand for rs does: nothing is changed, what comes stands for r -/
noncomputable def Cl (f : Value) (rs : List AV) (r : AV) : Prop := ∀ (s : Shared) (vs : List Value), Kp g s.heap → (∀ b, X b → (∃ o, s.heap.get? b = some o) ∧ g.get? b = none) → RelL X s.heap rs vs →
  wpAny (model prog w) A (call f vs []) (fun v s' => Keeps s s' ∧ Rel X s'.heap r v) F0 s
/-- a step upon two values -/
noncomputable def Op2 (t : Value → Value → Sem Value) (a b c : AV) : Prop := ∀ (s : Shared) (u v : Value), Kp g s.heap → (∀ b, X b → (∃ o, s.heap.get? b = some o) ∧ g.get? b = none) → Rel X s.heap a u → Rel X s.heap b v →
  wpAny (model prog w) A (t u v) (fun x s' => Keeps s s' ∧ Rel X s'.heap c x) F0 s
end

section
variable {prog : Program} {w : World} {g : Heap} {mg mb : Str → Option Value} {A : Around} {env : Env} {X : Addr → Prop} {σ : List (Str × AV)}

theorem live_of {h} (H : Fm g env X) (S : St g env X σ h) : ∀ b, X b → (∃ o, h.get? b = some o) ∧ g.get? b = none := fun b hb => ⟨S.lv b hb, H.xg b hb⟩

theorem St.ks {s s' : Shared} (S : St g env X σ s.heap) (k : Keeps s s') : St g env X σ s'.heap := S.keep (keeps_kp k)
theorem rel_ks {s s' : Shared} {a v} (r : Rel X s.heap a v) (k : Keeps s s') : Rel X s'.heap a v := r.move (keeps_kp k).move
theorem relL_ks {s s' : Shared} {a v} (r : RelL X s.heap a v) (k : Keeps s s') : RelL X s'.heap a v := r.move (keeps_kp k).move

/- names -/
theorem ev_local {x : Str} {pos : Pos} {r : AV} (H : Fm g env X) (hv : σ.lookup x = some r) (hk : env.kindOf x = some .local) (hd : (x == ("__debug__" : Str)) = false) : Ev prog w g A env X σ (.Name x pos) r := fun s S => by
  obtain ⟨m, hn, hm⟩ := S.ns
  obtain ⟨v, h1, h2⟩ := hm x r hv hk
  exact wpAny_Name (wpAny_loadName_local H.fk hk hn h1 ⟨keeps_refl s, h2⟩) hd
theorem ev_cell {x : Str} {pos : Pos} {r : AV} {c : Addr} (H : Fm g env X) (hv : σ.lookup x = some r) (hk : env.kindOf x = some .cell) (hc : env.cells.lookup x = some c) (hd : (x == ("__debug__" : Str)) = false) :
    Ev prog w g A env X σ (.Name x pos) r := fun s S => by
  obtain ⟨u, hu, hm⟩ := S.cl x c hc
  obtain ⟨v, rfl, h2⟩ := hm r hv (.inl hk)
  exact wpAny_Name (wpAny_loadName_cell H.fk hk hc hu ⟨keeps_refl s, h2⟩) hd
theorem ev_glob {x : Str} {pos : Pos} {v : Value} (G : Gnd g mg mb) (H : Fm g env X) (hv : mg x = some v) (hk : env.kindOf x = some .globalImplicit) (hd : (x == ("__debug__" : Str)) = false) :
    Ev prog w g A env X σ (.Name x pos) (.val v) := fun s S => by
  refine Calls.Name_function_global H.fk hk (Calls.loadGlobal_global (env := env) ?_ hv ⟨keeps_refl s, by simp only [Rel]⟩) hd
  rw [H.gl]
  exact G.ns.keeps S.kg
theorem ev_boot {x : Str} {pos : Pos} {v : Value} (G : Gnd g mg mb) (H : Fm g env X) (hm : x ∈ bnames) (hv : bootBuiltins x = some v) (hk : env.kindOf x = some .globalImplicit) (hd : (x == ("__debug__" : Str)) = false) :
    Ev prog w g A env X σ (.Name x pos) (.val v) := fun s S => by
  obtain ⟨h1, h2⟩ := G.bi x hm
  refine Calls.Name_function_global H.fk hk (Calls.loadGlobal_builtin (env := env) ?_ h1 ?_ (h2.trans hv) ⟨keeps_refl s, by simp only [Rel]⟩) hd
  · rw [H.gl]; exact G.ns.keeps S.kg
  · rw [H.bl]; exact G.bs.keeps S.kg

/- constants -/
theorem ev_int {i k pos} : Ev prog w g A env X σ (.Constant (.int i) k pos) (.int i) := fun s _ => wpAny_Constant_int ⟨keeps_tok s _, by simp only [Rel]; exact ⟨_, rfl⟩⟩
theorem ev_bool {i k pos} : Ev prog w g A env X σ (.Constant (.bool i) k pos) (.bool i) := fun s _ => Constant_bool ⟨keeps_refl s, by simp only [Rel]⟩
theorem ev_none {k pos} : Ev prog w g A env X σ (.Constant .none k pos) .none := fun s _ => Constant_none ⟨keeps_refl s, by simp only [Rel]⟩
theorem ev_str {i k pos} : Ev prog w g A env X σ (.Constant (.str i) k pos) (.str i) := fun s _ => Calls.Constant_str ⟨keeps_tok s _, by simp only [Rel]; exact ⟨_, rfl⟩⟩

theorem ev_eq {e r} (h : Ev prog w g A env X σ e r) {r'} (q : r = r') : Ev prog w g A env X σ e r' := q ▸ h
theorem tr_eq {e b} (h : Tr prog w g A env X σ e b) {b'} (q : b = b') : Tr prog w g A env X σ e b' := q ▸ h

/- two operands -/
theorem ev_bin {l r : Expr} {op pos a b c} (H : Fm g env X) (ha : Ev prog w g A env X σ l a) (hb : Ev prog w g A env X σ r b) (ho : Op2 prog w g A X (binaryOp op) a b c) : Ev prog w g A env X σ (.BinOp l op r pos) c := fun s S => by
  refine wpAny_BinOp (wpAny_mono (ha s S) (fun u s₁ ⟨k₁, r₁⟩ => wpAny_mono (hb s₁ (S.ks k₁)) (fun v s₂ ⟨k₂, r₂⟩ => ?_) fun _ _ e => e.elim) fun _ _ e => e.elim)
  have S₂ := (S.ks k₁).ks k₂
  exact wpAny_mono (ho s₂ u v S₂.kg (live_of H S₂) (rel_ks r₁ k₂) r₂) (fun x s₃ ⟨k₃, r₃⟩ => ⟨keeps_trans (keeps_trans k₁ k₂) k₃, r₃⟩) fun _ _ e => e
theorem ev_cmp {l r : Expr} {op pos a b c} (H : Fm g env X) (ha : Ev prog w g A env X σ l a) (hb : Ev prog w g A env X σ r b) (ho : Op2 prog w g A X (compareOp op) a b c) (hm : behindInMarks op r = false) : Ev prog w g A env X σ (.Compare l [op] [r] pos) c := fun s S => by
  refine wpAny_Compare1 (wpAny_mono (ha s S) (fun u s₁ ⟨k₁, r₁⟩ => wpAny_mono (hb s₁ (S.ks k₁)) (fun v s₂ ⟨k₂, r₂⟩ => ?_) fun _ _ e => e.elim) fun _ _ e => e.elim) hm
  have S₂ := (S.ks k₁).ks k₂
  exact wpAny_mono (ho s₂ u v S₂.kg (live_of H S₂) (rel_ks r₁ k₂) r₂) (fun x s₃ ⟨k₃, r₃⟩ => ⟨keeps_trans (keeps_trans k₁ k₂) k₃, r₃⟩) fun _ _ e => e
theorem tr_cmp {l r : Expr} {op pos a b} {c : Bool} (H : Fm g env X) (ha : Ev prog w g A env X σ l a) (hb : Ev prog w g A env X σ r b) (ho : Op2 prog w g A X (compareOp op) a b (.bool c)) (hm : behindInMarks op r = false) : Tr prog w g A env X σ (.Compare l [op] [r] pos) c := fun s S => by
  refine wpAny_isTrue_Compare1 (wpAny_mono (ha s S) (fun u s₁ ⟨k₁, r₁⟩ => wpAny_mono (hb s₁ (S.ks k₁)) (fun v s₂ ⟨k₂, r₂⟩ => ?_) fun _ _ e => e.elim) fun _ _ e => e.elim) hm
  have S₂ := (S.ks k₁).ks k₂
  refine wpAny_mono (ho s₂ u v S₂.kg (live_of H S₂) (rel_ks r₁ k₂) r₂) (fun x s₃ ⟨k₃, r₃⟩ => ?_) fun _ _ e => e
  simp only [Rel] at r₃
  subst r₃
  exact wpAny_truthy_bool ⟨keeps_trans (keeps_trans k₁ k₂) k₃, rfl⟩
/- a value's truth -/
theorem tr_ev {e : Expr} {b : Bool} (h : Ev prog w g A env X σ e (.bool b)) (he : isTrue e env (eval e env) = (do let v ← eval e env; standAt e.pos; holding [v] (truthy v))) : Tr prog w g A env X σ e b := fun s S => by
  refine isTrue_plain (wpAny_mono (h s S) (fun v s₁ ⟨k₁, r₁⟩ => ?_) fun _ _ e => e.elim) he
  simp only [Rel] at r₁
  subst r₁
  exact wpAny_truthy_bool ⟨k₁, rfl⟩
theorem tr_not {x pos} {b : Bool} (h : Tr prog w g A env X σ x b) : Tr prog w g A env X σ (.UnaryOp .Not x pos) (!b) := fun s S =>
  isTrue_not (wpAny_mono (h s S) (fun c s₁ ⟨k, e⟩ => ⟨k, by rw [e]⟩) fun _ _ e => e)
theorem tr_and {x y pos} {b c : Bool} (h : Tr prog w g A env X σ x b) (h' : b = true → Tr prog w g A env X σ y c) : Tr prog w g A env X σ (.BoolOp .And [x, y] pos) (b && c) := fun s S => by
  refine isTrue_and (wpAny_mono (h s S) (fun d s₁ ⟨k, e⟩ => ?_) fun _ _ e => e)
  subst e
  cases d with
  | false => exact ⟨k, rfl⟩
  | true =>
    refine isTrue_and (wpAny_mono (h' rfl s₁ (S.ks k)) (fun d s₂ ⟨k', e⟩ => ?_) fun _ _ e => e)
    subst e
    cases d with
    | false => exact ⟨keeps_trans k k', rfl⟩
    | true => exact isTrue_and_nil ⟨keeps_trans k k', rfl⟩
theorem tr_or {x y pos} {b c : Bool} (h : Tr prog w g A env X σ x b) (h' : b = false → Tr prog w g A env X σ y c) : Tr prog w g A env X σ (.BoolOp .Or [x, y] pos) (b || c) := fun s S => by
  refine isTrue_or (wpAny_mono (h s S) (fun d s₁ ⟨k, e⟩ => ?_) fun _ _ e => e)
  subst e
  cases d with
  | true => exact ⟨k, rfl⟩
  | false =>
    refine isTrue_or (wpAny_mono (h' rfl s₁ (S.ks k)) (fun d s₂ ⟨k', e⟩ => ?_) fun _ _ e => e)
    subst e
    cases d with
    | true => exact ⟨keeps_trans k k', rfl⟩
    | false => exact isTrue_or_nil ⟨keeps_trans k k', rfl⟩
theorem ev_and {x y pos} {b c : Bool} (h : Ev prog w g A env X σ x (.bool b)) (h' : b = true → Ev prog w g A env X σ y (.bool c)) : Ev prog w g A env X σ (.BoolOp .And [x, y] pos) (.bool (b && c)) := fun s S => by
  refine BoolOp_and (wpAny_mono (h s S) (fun v s₁ ⟨k, r⟩ => ?_) fun _ _ e => e.elim)
  simp only [Rel] at r
  subst r
  refine wpAny_truthy_bool ?_
  cases b with
  | false => exact ⟨k, by simp only [Rel]; rfl⟩
  | true =>
    refine BoolOp_one (wpAny_mono (h' rfl s₁ (S.ks k)) (fun v s₂ ⟨k', r⟩ => ?_) fun _ _ e => e)
    exact ⟨keeps_trans k k', by simpa using r⟩
theorem ev_or {x y pos} {b c : Bool} (h : Ev prog w g A env X σ x (.bool b)) (h' : b = false → Ev prog w g A env X σ y (.bool c)) : Ev prog w g A env X σ (.BoolOp .Or [x, y] pos) (.bool (b || c)) := fun s S => by
  refine BoolOp_or (wpAny_mono (h s S) (fun v s₁ ⟨k, r⟩ => ?_) fun _ _ e => e.elim)
  simp only [Rel] at r
  subst r
  refine wpAny_truthy_bool ?_
  cases b with
  | true => exact ⟨k, by simp only [Rel]; rfl⟩
  | false =>
    refine BoolOp_one (wpAny_mono (h' rfl s₁ (S.ks k)) (fun v s₂ ⟨k', r⟩ => ?_) fun _ _ e => e)
    exact ⟨keeps_trans k k', by simpa using r⟩
theorem ev_ite {t x y pos} {b : Bool} {r r' : AV} (h : Tr prog w g A env X σ t b) (h1 : b = true → Ev prog w g A env X σ x r) (h2 : b = false → Ev prog w g A env X σ y r') : Ev prog w g A env X σ (.IfExp t x y pos) (if b = true then r else r') := fun s S => by
  refine IfExp_ (wpAny_mono (h s S) (fun c s₁ ⟨k, e⟩ => ?_) fun _ _ e => e.elim)
  subst e
  cases c with
  | true => exact wpAny_mono (h1 rfl s₁ (S.ks k)) (fun v s₂ ⟨k', q⟩ => ⟨keeps_trans k k', q⟩) fun _ _ e => e
  | false => exact wpAny_mono (h2 rfl s₁ (S.ks k)) (fun v s₂ ⟨k', q⟩ => ⟨keeps_trans k k', q⟩) fun _ _ e => e

/- lists of expressions -/
theorem evl_nil : EvL prog w g A env X σ [] [] := trivial
theorem evl_cons {e es r rs} (h : Ev prog w g A env X σ e r) (hs : starEach (e :: es) env = (false, eval e env) :: starEach es env) (hr : EvL prog w g A env X σ es rs) : EvL prog w g A env X σ (e :: es) (r :: rs) := ⟨h, hs, hr⟩
theorem evl_spliced {pos : Pos} : ∀ (es : List Expr) (rs : List AV), EvL prog w g A env X σ es rs → ∀ s : Shared, St g env X σ s.heap →
    wpAny (model prog w) A (spliced (backTo pos (starEach es env))) (fun vs s' => Keeps s s' ∧ RelL X s'.heap rs vs) F0 s
  | [], [], _, s, _ => Calls.spliced_nil ⟨keeps_refl s, by simp only [RelL]⟩
  | [], _ :: _, h, _, _ => h.elim
  | _ :: _, [], h, _, _ => h.elim
  | e :: es, r :: rs, ⟨h1, h2, h3⟩, s, S => by
    rw [h2]
    refine Calls.spliced_cons (wpAny_mono (h1 s S) (fun v s₁ ⟨k, q⟩ => wpAny_mono (evl_spliced es rs h3 s₁ (S.ks k)) (fun vs s₂ ⟨k', q'⟩ => ?_) fun _ _ e => e.elim) fun _ _ e => e.elim)
    exact ⟨keeps_trans k k', by simp only [RelL]; exact ⟨rel_ks q k', q'⟩⟩
theorem evl_plain {pos : Pos} : ∀ (es : List Expr) (rs : List AV), EvL prog w g A env X σ es rs → (backTo pos (starEach es env)).any (·.1) = false
  | [], _, _ => rfl
  | _ :: _, [], h => h.elim
  | e :: es, r :: rs, ⟨_, h2, h3⟩ => by
    rw [h2]
    show (false || (backTo pos (starEach es env)).any (·.1)) = false
    rw [evl_plain es rs h3]; rfl

theorem relL_length : ∀ {rs : List AV} {vs : List Value} {h : Heap}, RelL X h rs vs → rs.length = vs.length
  | [], [], _, _ => rfl
  | [], _ :: _, _, r => by simp only [RelL] at r
  | _ :: _, [], _, r => by simp only [RelL] at r
  | _ :: rs, _ :: vs, _, r => by simp only [RelL] at r; simp [relL_length r.2]

/-- a new address is off X -/
theorem fresh_off {s : Shared} (hX : ∀ b, X b → (∃ o, s.heap.get? b = some o) ∧ g.get? b = none) {a : Addr} (ha : s.heap.objs.size ≤ a) : ¬ X a := fun q => by
  obtain ⟨⟨o, ho⟩, _⟩ := hX a q
  exact absurd (Heap.lt_size ho) (Nat.not_lt.mpr ha)
theorem keeps_push (s : Shared) (o : Obj) : Keeps s { s with heap := s.heap.push o } := ⟨_, s.toks, rfl, fun _ _ e => Heap.get?_push_of_some _ e⟩

theorem ev_tuple {es k pos rs} (H : Fm g env X) (h : EvL prog w g A env X σ es rs) (hz : rs.length ≤ 1000) : Ev prog w g A env X σ (.Tuple es k pos) (.tup rs) := fun s S => by
  show wpAny (model prog w) A (do standAt pos; newTuple (← spliced (backTo pos (starEach es env)))) _ _ s
  refine wpAny_bind (wpAny_standAt (wpAny_bind (wpAny_mono (evl_spliced es rs h s S) (fun vs s₁ ⟨k₁, r₁⟩ => ?_) fun _ _ e => e.elim)))
  have hl := relL_length r₁
  refine wpAny_newTuple ?_ (by rw [sizeLine_eq]; omega)
  have kk := keeps_push s₁ { cls := .type "tuple", data := .seq vs.toArray }
  refine ⟨keeps_trans k₁ kk, ?_⟩
  simp only [Rel]
  exact ⟨_, vs, 0, rfl, fresh_off (live_of H (S.ks k₁)) (Nat.le_refl _), Heap.get?_push_size _ rfl, relL_ks r₁ kk⟩
theorem ev_list {es pos rs} (H : Fm g env X) (h : EvL prog w g A env X σ es rs) (hz : rs.length ≤ 1000) : Ev prog w g A env X σ (.List es pos) (.list rs) := fun s S => by
  show wpAny (model prog w) A (do standAt pos; newList (← spliced (backTo pos (starEach es env)))) _ _ s
  refine wpAny_bind (wpAny_standAt (wpAny_bind (wpAny_mono (evl_spliced es rs h s S) (fun vs s₁ ⟨k₁, r₁⟩ => ?_) fun _ _ e => e.elim)))
  have hl := relL_length r₁
  refine wpAny_newList ?_ (by rw [sizeLine_eq]; omega)
  have kk := keeps_push s₁ { cls := .type "list", data := .seq vs.toArray }
  refine ⟨keeps_trans k₁ kk, ?_⟩
  simp only [Rel]
  exact ⟨_, vs, 0, rfl, fresh_off (live_of H (S.ks k₁)) (Nat.le_refl _), Heap.get?_push_size _ rfl, relL_ks r₁ kk⟩

/- calls -/
noncomputable def Callable (g : Heap) (f : Value) : Prop := (∃ id, f = .builtin id) ∨ (∃ T, f = .type T) ∨ ∃ a o fd, f = .ref a ∧ g.get? a = some o ∧ o.data = .func fd
theorem ev_call {func : Expr} {args : List Expr} {pos : Pos} {f : Value} {r0 : AV} {rs : List AV} {r : AV} (H : Fm g env X) (hf : Ev prog w g A env X σ func (.val f)) (hC : Callable g f) (ha : EvL prog w g A env X σ args (r0 :: rs)) (hc : Cl prog w g A X f (r0 :: rs) r)
    (he : eval (.Call func args [] pos) env = (do callWith pos (← eval func env) [] (backTo pos (starEach args env)) (backToKw pos (keywordEach [] env)))) :
    Ev prog w g A env X σ (.Call func args [] pos) r := fun s S => by
  rw [he]
  refine wpAny_bind (wpAny_mono (hf s S) (fun v s₁ ⟨k₁, r₁⟩ => ?_) fun _ _ e => e.elim)
  simp only [Rel] at r₁
  subst r₁
  show wpAny (model prog w) A (callWith pos v [] (backTo pos (starEach args env)) []) _ _ s₁
  have pl := evl_plain (pos := pos) args (r0 :: rs) ha
  have sp := evl_spliced (pos := pos) args (r0 :: rs) ha s₁ (S.ks k₁)
  obtain ⟨e0, es, rfl⟩ : ∃ e0 es, args = e0 :: es := by
    cases args with
    | nil => exact ha.elim
    | cons e es => exact ⟨e, es, rfl⟩
  have hst : backTo pos (starEach (e0 :: es) env) = (false, eval e0 env) :: backTo pos (starEach es env) := by rw [ha.2.1]; rfl
  have fin : ∀ (vs : List Value) (s₂ : Shared), Keeps s₁ s₂ ∧ RelL X s₂.heap (r0 :: rs) vs → wpAny (model prog w) A (call v ([] ++ vs) []) (fun v s' => Keeps s s' ∧ Rel X s'.heap r v) F0 s₂ := fun vs s₂ ⟨k₂, r₂⟩ => by
    have S₂ := (S.ks k₁).ks k₂
    exact wpAny_mono (hc s₂ vs S₂.kg (live_of H S₂) r₂) (fun x s₃ ⟨k₃, r₃⟩ => ⟨keeps_trans (keeps_trans k₁ k₂) k₃, r₃⟩) fun _ _ e => e
  rcases hC with ⟨id, rfl⟩ | ⟨T, rfl⟩ | ⟨a, o, fd, rfl, ho, hd⟩
  · refine Calls.callWith_builtin pl ?_
    rw [hst] at sp ⊢
    exact Calls.evalArgs_plain (wpAny_mono sp fin fun _ _ e => e)
  · refine PyProof.Rows.callWith_type pl ?_
    rw [hst] at sp ⊢
    exact Calls.evalArgs_plain (wpAny_mono sp fin fun _ _ e => e)
  · refine Calls.callWith_function (o := o) (fd := fd) ?_
    rw [hst] at sp ⊢
    refine Calls.evalArgs_plain (wpAny_mono sp (fun vs s₂ q => ⟨⟨?_, hd⟩, fin vs s₂ q⟩) fun _ _ e => e)
    exact ((S.ks k₁).ks q.1).kg _ _ ho
end

end Mine
end

section
open PySem PySem.W PyProof.Rows
set_option Elab.async false
set_option maxRecDepth 100000
namespace Mine

noncomputable def Own (env : Env) (b : Addr) : Prop := b = env.locals ∨ ∃ n, env.cells.lookup n = some b
/-- where a name's value lies -/
noncomputable def Slot (env : Env) (x : Str) (b : Addr) : Prop := (env.kindOf x = some .local ∧ b = env.locals) ∨ (env.kindOf x = some .cell ∧ env.cells.lookup x = some b)
theorem slot_own {env : Env} {x : Str} {b : Addr} (h : Slot env x b) : Own env b := h.elim (fun q => .inl q.2) fun q => .inr ⟨x, q.2⟩
noncomputable def StJ (env : Env) (J : Heap → Prop) : Prop := ∀ h h', KpX (Own env) h h' → J h → J h'

section
variable {prog : Program} {w : World} {g : Heap} {mg mb : Str → Option Value} {A : Around} {env : Env} {X : Addr → Prop} {σ : List (Str × AV)} {E : Value → Shared → Prop}

theorem own_x (H : Fm g env X) {b : Addr} (h : Own env b) : X b := h.elim (fun e => e ▸ H.xl) fun ⟨n, e⟩ => (H.xc n b e).1

theorem store_name' (H : Fm g env X) {s : Shared} (S : St g env X σ s.heap) {x : Str} {v : Value} {av : AV} (r : Rel X s.heap av v)
    (hk : env.kindOf x = some .local ∨ env.kindOf x = some .cell ∧ ∃ c, env.cells.lookup x = some c) {Q : Unit → Shared → Prop}
    (h : ∀ s', KeepsX (Slot env x) s s' → St g env X ((x, av) :: σ) s'.heap → Q () s') : wpAny (model prog w) A (storeName env x v) Q E s := by
  obtain ⟨m, hn, hm⟩ := S.ns
  have hl : ∀ y : Str, ((x, av) :: σ).lookup y = if y = x then some av else σ.lookup y := fun y => by
    rw [List.lookup_cons]
    by_cases e : y = x
    · subst e; simp
    · have : (y == x) = false := by simpa using e
      simp [this, e]
  rcases hk with hk | ⟨hk, c, hc⟩
  · refine wpAny_storeName_local hk hn (fun h' hn' hs => ?_) (by rw [H.fk]; rfl)
    have kx : KpX (Slot env x) s.heap h' := fun b o hb e => (hs.2 b (fun q => hb (.inl ⟨hk, q⟩))).trans e
    have kX : KpX X s.heap h' := kx.mono fun b hb => own_x H (slot_own hb)
    refine h _ ⟨h', _, rfl, kx⟩ ⟨fun b o e => ?_, ⟨_, hn', fun y ay hy hky => ?_⟩, fun n c hc => ?_, fun b hb => ?_⟩
    · refine (hs.2 b fun q => ?_).trans (S.kg b o e)
      have := H.xg _ H.xl
      rw [← q, e] at this; cases this
    · rw [hl] at hy
      by_cases e : y = x
      · rw [if_pos e] at hy; cases hy
        exact ⟨v, by simp [e], r.move kX.move⟩
      · rw [if_neg e] at hy
        obtain ⟨u, hu, ru⟩ := hm y ay hy hky
        exact ⟨u, by simpa [e] using hu, ru.move kX.move⟩
    · obtain ⟨u, hu, hr⟩ := S.cl n c hc
      refine ⟨u, hu.sameBut hs (H.xc n c hc).2, fun ay hy hkn => ?_⟩
      rw [hl] at hy
      by_cases e : n = x
      · subst e; rw [hk] at hkn; rcases hkn with q | q <;> cases q
      · rw [if_neg e] at hy
        obtain ⟨z, hz, rz⟩ := hr ay hy hkn
        exact ⟨z, hz, rz.move kX.move⟩
    · by_cases e : b = env.locals
      · subst e; obtain ⟨o, _, _, ho, _⟩ := hn'; exact ⟨o, ho⟩
      · obtain ⟨o, ho⟩ := S.lv b hb; exact ⟨o, (hs.2 b e).trans ho⟩
  · obtain ⟨u₀, hu₀, _⟩ := S.cl x c hc
    refine wpAny_storeName_cell H.fk hk hc hu₀ fun h' hc' hs => ?_
    have kx : KpX (Slot env x) s.heap h' := fun b o hb e => (hs.2 b (fun q => hb (.inr ⟨hk, q ▸ hc⟩))).trans e
    have kX : KpX X s.heap h' := kx.mono fun b hb => own_x H (slot_own hb)
    refine h _ ⟨h', _, rfl, kx⟩ ⟨fun b o e => ?_, ⟨m, hn.sameBut hs (Ne.symm (H.xc x c hc).2), fun y ay hy hky => ?_⟩, fun n c' hcn => ?_, fun b hb => ?_⟩
    · refine (hs.2 b fun q => ?_).trans (S.kg b o e)
      have := H.xg _ (H.xc x c hc).1
      rw [← q, e] at this; cases this
    · rw [hl] at hy
      by_cases e : y = x
      · subst e; rw [hk] at hky; cases hky
      · rw [if_neg e] at hy
        obtain ⟨z, hz, rz⟩ := hm y ay hy hky
        exact ⟨z, hz, rz.move kX.move⟩
    · by_cases e : n = x
      · subst e
        rw [hc] at hcn; cases hcn
        refine ⟨some v, hc', fun ay hy _ => ?_⟩
        rw [hl, if_pos rfl] at hy; cases hy
        exact ⟨v, rfl, r.move kX.move⟩
      · obtain ⟨u, hu, hr⟩ := S.cl n c' hcn
        have hne : c' ≠ c := fun q => e (H.inj n x c' hcn (q ▸ hc))
        refine ⟨u, hu.sameBut hs hne, fun ay hy hkn => ?_⟩
        rw [hl, if_neg e] at hy
        obtain ⟨z, hz, rz⟩ := hr ay hy hkn
        exact ⟨z, hz, rz.move kX.move⟩
    · by_cases e : b = c
      · subst e; obtain ⟨o, ho, _⟩ := hc'; exact ⟨o, ho⟩
      · obtain ⟨o, ho⟩ := S.lv b hb; exact ⟨o, (hs.2 b e).trans ho⟩

theorem store_name (H : Fm g env X) {s : Shared} (S : St g env X σ s.heap) {x : Str} {v : Value} {av : AV} (r : Rel X s.heap av v)
    (hk : env.kindOf x = some .local ∨ env.kindOf x = some .cell ∧ ∃ c, env.cells.lookup x = some c) {Q : Unit → Shared → Prop}
    (h : ∀ s', KeepsX (Own env) s s' → St g env X ((x, av) :: σ) s'.heap → Q () s') : wpAny (model prog w) A (storeName env x v) Q E s :=
  store_name' H S r hk fun s' k S' => h s' (k.mono fun _ hb => slot_own hb) S'

variable (prog w g A env X) in
/-- a block of statements -/
noncomputable def Bg (Z : Addr → Prop) (σ : List (Str × AV)) (J : Heap → Prop) (ss : List Stmt) (R : Flow → Heap → Prop) : Prop := ∀ s : Shared, St g env X σ s.heap → J s.heap →
  wpAny (model prog w) A (execs ss env) (fun f s' => KeepsX Z s s' ∧ R f s'.heap) F0 s

variable {Z : Addr → Prop} {J : Heap → Prop} {R : Flow → Heap → Prop}

theorem bg_nil (h : ∀ h, St g env X σ h → J h → R .next h) : Bg prog w g A env X Z σ J [] R := fun _ S j => wpAny_execs_nil ⟨.refl _ _, h _ S j⟩
theorem St.sub {h} {σ' : List (Str × AV)} (S : St g env X σ h) (hs : ∀ x, σ'.lookup x = none ∨ σ'.lookup x = σ.lookup x) : St g env X σ' h := by
  refine ⟨S.kg, ?_, fun n c hc => ?_, S.lv⟩
  · obtain ⟨m, hn, hm⟩ := S.ns
    refine ⟨m, hn, fun x av hx hk => hm x av ?_ hk⟩
    rcases hs x with e | e
    · rw [e] at hx; cases hx
    · exact e ▸ hx
  · obtain ⟨u, hu, hr⟩ := S.cl n c hc
    refine ⟨u, hu, fun av hx hk => hr av ?_ hk⟩
    rcases hs n with e | e
    · rw [e] at hx; cases hx
    · exact e ▸ hx

theorem St.move {h h' : Heap} {X' : Addr → Prop} (S : St g env X σ h) (M : Move X h X' h') (kg : Kp g h') (ko : ∀ b o, Own env b → h.get? b = some o → h'.get? b = some o) (lv : ∀ b, X' b → ∃ o, h'.get? b = some o) : St g env X' σ h' := by
  refine ⟨kg, ?_, fun n c hc => ?_, lv⟩
  · obtain ⟨m, hn, hm⟩ := S.ns
    refine ⟨m, hn.at' fun o e => ko _ o (.inl rfl) e, fun x av hx hk => ?_⟩
    obtain ⟨v, hv, r⟩ := hm x av hx hk
    exact ⟨v, hv, r.move M⟩
  · obtain ⟨u, ⟨o, ho, hd⟩, hr⟩ := S.cl n c hc
    refine ⟨u, ⟨o, ko _ o (.inr ⟨n, hc⟩) ho, hd⟩, fun av hx hk => ?_⟩
    obtain ⟨v, hv, r⟩ := hr av hx hk
    exact ⟨v, hv, r.move M⟩

theorem bg_pre {ss} {J' : Heap → Prop} {σ' : List (Str × AV)} (h : Bg prog w g A env X Z σ' J' ss R) (hj : ∀ h, St g env X σ h → J h → J' h) (hs : ∀ x, σ'.lookup x = none ∨ σ'.lookup x = σ.lookup x) : Bg prog w g A env X Z σ J ss R := fun s S j => h s (S.sub hs) (hj _ S j)

theorem bg_assign {x p e pos rest r} (H : Fm g env X) (hZ : ∀ b, Own env b → Z b) (hJ : StJ env J) (he : Ev prog w g A env X σ e r)
    (hk : env.kindOf x = some .local ∨ env.kindOf x = some .cell ∧ ∃ c, env.cells.lookup x = some c) (hs : swapsWith e (some (.Name x p)) pos.line env = pure false)
    (h : Bg prog w g A env X Z ((x, r) :: σ) J rest R) : Bg prog w g A env X Z σ J (.Assign [.Name x p] e pos :: rest) R := fun s S j => by
  refine wpAny_execs_cons (wpAny_Assign_Name (wpAny_mono (he s S) (fun v s₁ ⟨k₁, r₁⟩ => ?_) fun _ _ e => e) hs)
  refine store_name H (S.ks k₁) r₁ hk fun s₂ k₂ S₂ => ?_
  have j₂ := hJ _ _ k₂.kp (hJ _ _ (keeps_kp k₁).x j)
  refine wpAny_mono (h s₂ S₂ j₂) (fun f s₃ ⟨k₃, q⟩ => ⟨((keeps_x k₁).trans (k₂.mono hZ)).trans k₃, q⟩) fun _ _ e => e

theorem bg_ret {e pos rest r} (hJ : StJ env J) (he : Ev prog w g A env X σ e r) (h : ∀ h v, St g env X σ h → J h → Rel X h r v → R (.ret v) h) : Bg prog w g A env X Z σ J (.Return (some e) pos :: rest) R := fun s S j => by
  refine wpAny_execs_cons (wpAny_Return_some (wpAny_mono (he s S) (fun v s₁ ⟨k₁, r₁⟩ => ?_) fun _ _ e => e))
  exact ⟨keeps_x k₁, h _ v (S.ks k₁) (hJ _ _ (keeps_kp k₁).x j) r₁⟩

theorem bg_if {t body pos rest} {b : Bool} (hR : ∀ h, ¬ R .next h) (hJ : StJ env J) (ht : Tr prog w g A env X σ t b) (h1 : b = true → Bg prog w g A env X Z σ J body R) (h2 : b = false → Bg prog w g A env X Z σ J rest R) :
    Bg prog w g A env X Z σ J (.If t body [] pos :: rest) R := fun s S j => by
  refine wpAny_execs_cons (wpAny_If (wpAny_mono (ht s S) (fun c s₁ ⟨k₁, e⟩ => ?_) fun _ _ e => e))
  subst e
  have j₁ := hJ _ _ (keeps_kp k₁).x j
  cases c with
  | true =>
    rw [if_pos rfl]
    refine wpAny_mono (h1 rfl s₁ (S.ks k₁) j₁) (fun f s₂ ⟨k₂, q⟩ => ?_) fun _ _ e => e
    cases f with
    | next => exact (hR _ q).elim
    | brk => exact ⟨(keeps_x k₁).trans k₂, q⟩
    | cont => exact ⟨(keeps_x k₁).trans k₂, q⟩
    | ret v => exact ⟨(keeps_x k₁).trans k₂, q⟩
  | false =>
    rw [if_neg (by simp)]
    refine wpAny_execs_nil ?_
    exact wpAny_mono (h2 rfl s₁ (S.ks k₁) j₁) (fun f s₂ ⟨k₂, q⟩ => ⟨(keeps_x k₁).trans k₂, q⟩) fun _ _ e => e

/-- what a def gives back -/
noncomputable def Rt (X : Addr → Prop) (r : AV) (f : Flow) (h : Heap) : Prop := ∃ v, f = .ret v ∧ Rel X h r v
theorem rt_next {X : Addr → Prop} {r : AV} : ∀ h, ¬ Rt X r .next h := fun _ ⟨_, e, _⟩ => by cases e

/- the call of a def -/
theorem bindL_miss {kindOf : Str → Option NameKind} : ∀ (bs : List (Str × Value)) (m : Str → Option Value) (n : Str), n ∉ bs.map (·.1) → bindL kindOf bs m n = m n
  | [], _, _, _ => rfl
  | (y, u) :: r, m, n, h => by
    simp only [List.map_cons, List.mem_cons, not_or] at h
    rw [bindL, bindL_miss r _ n h.2]
    split
    · exact if_neg h.1
    · rfl
theorem bindL_hit {kindOf : Str → Option NameKind} : ∀ (bs : List (Str × Value)) (m : Str → Option Value) (n : Str) (v : Value), (bs.map (·.1)).Nodup → bs.lookup n = some v → kindOf n = some .local → bindL kindOf bs m n = some v
  | [], _, _, _, _, h, _ => by simp at h
  | (y, u) :: r, m, n, v, hn, h, hk => by
    rw [List.map_cons, List.nodup_cons] at hn
    rw [List.lookup_cons] at h
    by_cases e : n = y
    · subst e
      simp only [beq_self_eq_true] at h
      cases h
      rw [bindL, bindL_miss r _ n hn.1, if_pos hk]; exact if_pos rfl
    · have e' : (n == y) = false := by simpa using e
      simp only [e'] at h
      rw [bindL]
      exact bindL_hit r _ n v hn.2 h hk
theorem bindC_miss {kindOf : Str → Option NameKind} : ∀ (bs : List (Str × Value)) (m : Str → Option Value) (n : Str), n ∉ bs.map (·.1) → bindC kindOf bs m n = m n
  | [], _, _, _ => rfl
  | (y, u) :: r, m, n, h => by
    simp only [List.map_cons, List.mem_cons, not_or] at h
    rw [bindC, bindC_miss r _ n h.2]
    split
    · rfl
    · exact if_neg h.1
theorem bindC_hit {kindOf : Str → Option NameKind} : ∀ (bs : List (Str × Value)) (m : Str → Option Value) (n : Str) (v : Value), (bs.map (·.1)).Nodup → bs.lookup n = some v → kindOf n ≠ some .local → bindC kindOf bs m n = some v
  | [], _, _, _, _, h, _ => by simp at h
  | (y, u) :: r, m, n, v, hn, h, hk => by
    rw [List.map_cons, List.nodup_cons] at hn
    rw [List.lookup_cons] at h
    by_cases e : n = y
    · subst e
      simp only [beq_self_eq_true] at h
      cases h
      rw [bindC, bindC_miss r _ n hn.1, if_neg hk]; exact if_pos rfl
    · have e' : (n == y) = false := by simpa using e
      simp only [e'] at h
      rw [bindC]
      exact bindC_hit r _ n v hn.2 h hk
theorem zip_rel {h : Heap} : ∀ (ns : List Str) (rs : List AV) (vs : List Value) (n : Str) (av : AV), RelL X h rs vs → (ns.zip rs).lookup n = some av → ∃ v, (ns.zip vs).lookup n = some v ∧ Rel X h av v
  | [], _, _, _, _, _, h => by simp at h
  | _ :: _, [], _, _, _, _, h => by simp at h
  | _ :: _, _ :: _, [], _, _, r, _ => by simp only [RelL] at r
  | y :: ns, a :: rs, v :: vs, n, av, r, h => by
    simp only [RelL] at r
    rw [List.zip_cons_cons, List.lookup_cons] at h ⊢
    cases e : n == y with
    | true => rw [e] at h; cases h; exact ⟨v, rfl, r.1⟩
    | false => rw [e] at h; exact zip_rel ns rs vs n av r.2 h
theorem zip_fst : ∀ (ns : List Str) (vs : List Value), ns.length = vs.length → (ns.zip vs).map (·.1) = ns
  | [], [], _ => rfl
  | _ :: ns, _ :: vs, h => by simp [zip_fst ns vs (by simpa using h)]
  | [], _ :: _, h => by simp at h
  | _ :: _, [], h => by simp at h

theorem cl_def (G : Gnd g mg mb) {d : DefRec} (hd : d ∈ recs) {a : Addr} (ha : mg d.name = some (.ref a)) {k : Nat} (hA : Room (k + 1) A) {names : List Str} {rs : List AV} {r : AV} (hlen : names.length = rs.length)
    (hbind : ∀ pm cd doc (vs : List Value), vs.length = names.length → bindArgs (Calls.docDef d.name d.params d.body d.scope pm cd doc) ⟨vs, []⟩ = pure (names.zip vs))
    (hkd : (names.all fun y => d.scope.names.lookup y == some .local || d.scope.names.lookup y == some .cell) = true) (hnd : names.Nodup)
    (hco : d.scope.isCoroutine = false) (hgen : d.scope.isGenerator = false) (hk : d.scope.kind = .function)
    (body : ∀ L cd (X' : Addr → Prop), Fm g (envOfC d.name d.scope L a cd) X' → Room k (A.deeper (envOfC d.name d.scope L a cd)) →
      Bg prog w g (A.deeper (envOfC d.name d.scope L a cd)) (envOfC d.name d.scope L a cd) X' (Own (envOfC d.name d.scope L a cd)) (names.zip rs) (fun _ => True) d.body (Rt X' r)) :
    Cl prog w g A X (.ref a) rs r := fun s vs kg hX hr => by
  obtain ⟨a', o, pm, cd, doc, h1, h2, h3, h4⟩ := G.fn d hd
  rw [ha] at h1; cases h1
  have hvl : vs.length = names.length := by rw [hlen, relL_length hr]
  have hfst := zip_fst names vs hvl.symm
  refine wpAny_call (call_cells_ret (hA.d) (kg _ _ h2) h3 (G.nl.keeps kg) (h4.keeps kg) (hbind pm cd doc vs hvl) (kindsX (by
    have e : ∀ (l : List (Str × Value)), (l.all fun y => d.scope.names.lookup y.1 == some .local || d.scope.names.lookup y.1 == some .cell) = (l.map (·.1)).all fun y => d.scope.names.lookup y == some .local || d.scope.names.lookup y == some .cell := fun l => by rw [List.all_map]; rfl
    rw [e, hfst]; exact hkd) _) (fun h₁ tk F C => ?_) hco hgen hk)
  generalize hE : envOfC d.name d.scope s.heap.objs.size a cd = en at F C ⊢
  have eL : en.locals = s.heap.objs.size := by rw [← hE]; rfl
  have eC : en.cells = cellsFrom (s.heap.objs.size + 1) d.scope.names [] := by rw [← hE]; rfl
  have off : ∀ b, Own en b → s.heap.get? b = none := fun b hb => by
    have : s.heap.objs.size ≤ b := by
      rcases hb with e | ⟨n, e⟩
      · rw [e, eL]; exact Nat.le_refl _
      · rw [eC] at e; exact Nat.le_of_lt (C.above n b (mem_of_lookup e))
    exact Heap.get?_none_of_le this
  have gk : ∀ b, s.heap.get? b = none → g.get? b = none := fun b hb => by
    cases e : g.get? b with
    | none => rfl
    | some o => rw [kg b o e] at hb; cases hb
  have mv : Move X s.heap (fun b => X b ∨ Own en b) s.heap := Move.more fun b hb => hb.imp id (off b)
  have mv2 : Move (fun b => X b ∨ Own en b) s.heap (fun b => X b ∨ Own en b) h₁ := fun b o hb e => ⟨hb, F.keep b o e⟩
  have H : Fm g en (fun b => X b ∨ Own en b) := by
    refine ⟨by rw [← hE]; exact hk, by rw [← hE]; rfl, by rw [← hE]; rfl, .inr (.inl rfl), fun n c hc => ⟨.inr (.inr ⟨n, hc⟩), ?_⟩, fun n n' c hc hc' => ?_, fun b hb => hb.elim (fun q => (hX b q).2) fun q => gk b (off b q)⟩
    · rw [eC] at hc; rw [eL]; exact Nat.ne_of_gt (C.above n c (mem_of_lookup hc))
    · rw [eC] at hc hc'
      exact name_of_addr C.apart (mem_of_lookup hc) (mem_of_lookup hc')
  have S : St g en (fun b => X b ∨ Own en b) (names.zip rs) h₁ := by
    refine ⟨kg.trans F.keep, ⟨_, eL ▸ F.ns, fun x av hx hkx => ?_⟩, fun n c hc => ⟨_, C.cell n c (eC ▸ hc), fun av hx hkn => ?_⟩, fun b hb => ?_⟩
    · obtain ⟨v, hv, rv⟩ := zip_rel names rs vs x av hr hx
      exact ⟨v, bindL_hit _ _ _ _ (by rw [hfst]; exact hnd) hv hkx, (rv.move mv).move mv2⟩
    · obtain ⟨v, hv, rv⟩ := zip_rel names rs vs n av hr hx
      exact ⟨v, bindC_hit _ _ _ _ (by rw [hfst]; exact hnd) hv (by rcases hkn with q | q <;> rw [q] <;> simp), (rv.move mv).move mv2⟩
    · rcases hb with hb | rfl | ⟨n, hb⟩
      · obtain ⟨⟨o, ho⟩, _⟩ := hX b hb; exact ⟨o, F.keep b o ho⟩
      · obtain ⟨o, _, _, ho, _⟩ := F.ns; exact ⟨o, eL ▸ ho⟩
      · obtain ⟨o, ho, _⟩ := C.cell n b (eC ▸ hb); exact ⟨o, ho⟩
  have B := body s.heap.objs.size cd (fun b => X b ∨ Own en b) (by rw [hE]; exact H) (by exact hA.deeper)
  rw [hE] at B
  refine wpAny_mono (B _ S trivial) (fun f s' ⟨k, v, e, rv⟩ => ?_) fun _ _ e => e
  subst e
  obtain ⟨h', tk', rfl, kx⟩ := k
  refine ⟨⟨h', tk', rfl, fun b o e => kx b o (fun q => ?_) (F.keep b o e)⟩, rv.move (Move.less fun b hb => .inl hb)⟩
  rw [off b q] at e; cases e
end
end Mine
end

section
open PySem PySem.W PyProof.Rows
set_option Elab.async false
set_option maxRecDepth 100000
namespace Mine

section
variable {X : Addr → Prop} {h : Heap}
theorem relL_ints : ∀ {r : List Int} {vs : List Value}, RelL X h (r.map .int) vs ↔ IntsAre vs r
  | [], [] => by simp only [List.map_nil, RelL]; exact ⟨fun _ => .nil, fun _ => trivial⟩
  | [], _ :: _ => by simp only [List.map_nil, RelL]; exact ⟨fun q => q.elim, fun q => by cases q⟩
  | _ :: _, [] => by simp only [List.map_cons, RelL]; exact ⟨fun q => q.elim, fun q => by cases q⟩
  | i :: r, v :: vs => by
    simp only [List.map_cons, RelL, Rel]
    constructor
    · rintro ⟨⟨t, rfl⟩, q⟩; exact .cons _ _ (relL_ints.mp q)
    · intro q; cases q with | cons n t q => exact ⟨⟨_, rfl⟩, relL_ints.mpr q⟩
theorem rel_row {r : List Int} {v : Value} : Rel X h (row r) v ↔ ∃ a, v = .ref a ∧ ¬ X a ∧ IsRow h a r := by
  simp only [Rel]
  constructor
  · rintro ⟨a, vs, n, rfl, ha, ho, hl⟩; exact ⟨a, rfl, ha, vs.toArray, n, ho, by simpa using relL_ints.mp hl⟩
  · rintro ⟨a, rfl, ha, vs, n, ho, hi⟩; exact ⟨a, vs.toList, n, rfl, ha, by simpa using ho, relL_ints.mpr hi⟩
theorem relL_get : ∀ {l : List AV} {vs : List Value}, RelL X h l vs → ∀ {i : Nat} {v : Value}, vs[i]? = some v → ∃ a, l[i]? = some a ∧ Rel X h a v
  | [], [], _, i, v, e => by simp at e
  | [], _ :: _, q, _, _, _ => by simp only [RelL] at q
  | _ :: _, [], q, _, _, _ => by simp only [RelL] at q
  | a :: l, u :: vs, q, i, v, e => by
    simp only [RelL] at q
    cases i with
    | zero => simp at e; subst e; exact ⟨a, rfl, q.1⟩
    | succ i => exact relL_get q.2 (by simpa using e)
theorem relL_get' : ∀ {l : List AV} {vs : List Value}, RelL X h l vs → ∀ {i : Nat} {a : AV}, l[i]? = some a → ∃ v, vs[i]? = some v ∧ Rel X h a v
  | [], [], _, i, v, e => by simp at e
  | [], _ :: _, q, _, _, _ => by simp only [RelL] at q
  | _ :: _, [], q, _, _, _ => by simp only [RelL] at q
  | a :: l, u :: vs, q, i, v, e => by
    simp only [RelL] at q
    cases i with
    | zero => simp at e; subst e; exact ⟨u, rfl, q.1⟩
    | succ i => exact relL_get' q.2 (by simpa using e)
theorem relL_append : ∀ {l l' : List AV} {vs vs' : List Value}, RelL X h l vs → RelL X h l' vs' → RelL X h (l ++ l') (vs ++ vs')
  | [], _, [], _, _, q' => by simpa using q'
  | [], _, _ :: _, _, q, _ => by simp only [RelL] at q
  | _ :: _, _, [], _, q, _ => by simp only [RelL] at q
  | a :: l, _, u :: vs, _, q, q' => by
    simp only [RelL] at q
    simp only [List.cons_append, RelL]
    exact ⟨q.1, relL_append q.2 q'⟩
theorem relL_of : ∀ {l : List AV} {vs : List Value}, l.length = vs.length → (∀ (i : Nat) (a : AV) (v : Value), l[i]? = some a → vs[i]? = some v → Rel X h a v) → RelL X h l vs
  | [], [], _, _ => by simp only [RelL]
  | [], _ :: _, e, _ => by simp at e
  | _ :: _, [], e, _ => by simp at e
  | a :: l, u :: vs, e, q => by
    simp only [RelL]
    exact ⟨q 0 a u rfl rfl, relL_of (by simpa using e) fun i a' v' h1 h2 => q (i + 1) a' v' (by simpa using h1) (by simpa using h2)⟩
theorem relL_rev {l : List AV} {vs : List Value} (q : RelL X h l vs) : RelL X h l.reverse vs.reverse := by
  have e := relL_length q
  refine relL_of (by simp [e]) fun i a v h1 h2 => ?_
  have hi : i < l.length := by
    have := (List.getElem?_eq_some_iff.mp h1).1; simpa using this
  rw [List.getElem?_reverse hi] at h1
  rw [List.getElem?_reverse (e ▸ hi)] at h2
  obtain ⟨a', h3, r⟩ := relL_get q h2
  rw [← e, h1] at h3; cases h3; exact r
theorem relL_take {l : List AV} {vs : List Value} (q : RelL X h l vs) (k : Nat) : RelL X h (l.take k) (vs.take k) := by
  have e := relL_length q
  refine relL_of (by simp [e]) fun i a v h1 h2 => ?_
  rw [List.getElem?_take] at h1 h2
  split at h1
  · rename_i hk
    rw [if_pos hk] at h2
    obtain ⟨a', h3, r⟩ := relL_get q h2
    rw [h1] at h3; cases h3; exact r
  · cases h1
theorem relL_drop {l : List AV} {vs : List Value} (q : RelL X h l vs) (k : Nat) : RelL X h (l.drop k) (vs.drop k) := by
  have e := relL_length q
  refine relL_of (by simp [e]) fun i a v h1 h2 => ?_
  rw [List.getElem?_drop] at h1 h2
  obtain ⟨a', h3, r⟩ := relL_get q h2
  rw [h1] at h3; cases h3; exact r
end

section
variable {prog : Program} {w : World} {g : Heap} {mg mb : Str → Option Value} {A : Around} {env : Env} {X : Addr → Prop} {σ : List (Str × AV)}

/- ints -/
theorem op_add {a b : Int} : Op2 prog w g A X (binaryOp .Add) (.int a) (.int b) (.int (a + b)) := fun s u v _ _ ru rv => by
  simp only [Rel] at ru rv; obtain ⟨t, rfl⟩ := ru; obtain ⟨t', rfl⟩ := rv
  exact PyProof.Rows.add_int ⟨keeps_tok s _, by simp only [Rel]; exact ⟨_, rfl⟩⟩
theorem op_sub {a b : Int} : Op2 prog w g A X (binaryOp .Sub) (.int a) (.int b) (.int (a - b)) := fun s u v _ _ ru rv => by
  simp only [Rel] at ru rv; obtain ⟨t, rfl⟩ := ru; obtain ⟨t', rfl⟩ := rv
  exact PyProof.Rows.sub_int ⟨keeps_tok s _, by simp only [Rel]; exact ⟨_, rfl⟩⟩
theorem op_mul {a b : Int} (hm : IntMulOk a b) : Op2 prog w g A X (binaryOp .Mult) (.int a) (.int b) (.int (a * b)) := fun s u v _ _ ru rv => by
  simp only [Rel] at ru rv; obtain ⟨t, rfl⟩ := ru; obtain ⟨t', rfl⟩ := rv
  exact PyProof.Rows.mul_int ⟨keeps_tok s _, by simp only [Rel]; exact ⟨_, rfl⟩⟩ hm
theorem op_mod {a b : Int} (hb : 0 < b) : Op2 prog w g A X (binaryOp .Mod) (.int a) (.int b) (.int (a % b)) := fun s u v _ _ ru rv => by
  simp only [Rel] at ru rv; obtain ⟨t, rfl⟩ := ru; obtain ⟨t', rfl⟩ := rv
  exact PyProof.Rows.mod_int (by omega) ⟨keeps_tok s _, by simp only [Rel]; exact ⟨_, by rw [Int.fmod_eq_emod_of_nonneg _ (by omega)]⟩⟩
theorem op_div {a b : Int} (hb : 0 < b) (hb2 : b < 1073741824) : Op2 prog w g A X (binaryOp .FloorDiv) (.int a) (.int b) (.int (a / b)) := fun s u v _ _ ru rv => by
  simp only [Rel] at ru rv; obtain ⟨t, rfl⟩ := ru; obtain ⟨t', rfl⟩ := rv
  exact PyProof.Rows.floordiv_int (by omega) ⟨keeps_tok s _, by simp only [Rel]; exact ⟨_, by rw [Int.fdiv_eq_ediv_of_nonneg _ (by omega)]⟩⟩ (.inl (PyProof.noPylong_small (by omega)))
theorem op_pow2 {n : Nat} (hn : n ≤ 1000) : Op2 prog w g A X (binaryOp .Pow) (.int 2) (.int n) (.int (2 ^ n)) := fun s u v _ _ ru rv => by
  simp only [Rel] at ru rv; obtain ⟨t, rfl⟩ := ru; obtain ⟨t', rfl⟩ := rv
  exact PyProof.Rows.pow_int_small (by omega) (by omega) (by decide) ⟨keeps_tok s _, by simp only [Rel]; exact ⟨s.toks, by rw [Int.toNat_natCast]⟩⟩
theorem op_lt {a b : Int} : Op2 prog w g A X (compareOp .Lt) (.int a) (.int b) (.bool (decide (a < b))) := fun s u v _ _ ru rv => by
  simp only [Rel] at ru rv; obtain ⟨t, rfl⟩ := ru; obtain ⟨t', rfl⟩ := rv
  exact PyProof.Rows.lt_int ⟨keeps_refl s, by simp only [Rel]⟩
theorem op_gt {a b : Int} : Op2 prog w g A X (compareOp .Gt) (.int a) (.int b) (.bool (decide (b < a))) := fun s u v _ _ ru rv => by
  simp only [Rel] at ru rv; obtain ⟨t, rfl⟩ := ru; obtain ⟨t', rfl⟩ := rv
  exact PyProof.Rows.gt_int ⟨keeps_refl s, by simp only [Rel]⟩
theorem op_le {a b : Int} : Op2 prog w g A X (compareOp .LtE) (.int a) (.int b) (.bool (decide (a ≤ b))) := fun s u v _ _ ru rv => by
  simp only [Rel] at ru rv; obtain ⟨t, rfl⟩ := ru; obtain ⟨t', rfl⟩ := rv
  exact PyProof.Rows.le_int ⟨keeps_refl s, by simp only [Rel]⟩
theorem op_eq {a b : Int} : Op2 prog w g A X (compareOp .Eq) (.int a) (.int b) (.bool (decide (a = b))) := fun s u v _ _ ru rv => by
  simp only [Rel] at ru rv; obtain ⟨t, rfl⟩ := ru; obtain ⟨t', rfl⟩ := rv
  exact PyProof.Rows.eq_int ⟨keeps_refl s, by simp only [Rel]; rfl⟩
theorem op_eqb {a b : Bool} : Op2 prog w g A X (compareOp .Eq) (.bool a) (.bool b) (.bool (decide (a = b))) := fun s u v _ _ ru rv => by
  simp only [Rel] at ru rv; subst ru rv
  exact EqBoolInt.of_rc (SeqAt.RcAt.bool_bool a b) ⟨keeps_refl s, by simp only [Rel]; cases a <;> cases b <;> rfl⟩

/- tuples of rows -/
theorem isTuple_of {h : Heap} {a : Addr} {vs : Array Value} {n : Nat} (ho : h.get? a = some (seqObj "tuple" vs n)) : h.IsTuple a vs := ⟨_, ho, rfl, n, rfl⟩
theorem isList_of {h : Heap} {a : Addr} {vs : Array Value} {n : Nat} (ho : h.get? a = some (seqObj "list" vs n)) : h.IsList a vs := ⟨_, ho, rfl, n, rfl⟩
theorem isTup_of {h : Heap} {a : Addr} {vs : Array Value} {n : Nat} (ho : h.get? a = some (seqObj "tuple" vs n)) : IsTup h a vs := ⟨_, ho, rfl, n, rfl⟩
theorem itemsAre_of {prog : Program} {w : World} : ∀ {vs : List Value} {r : List Int}, IntsAre vs r → ItemsAre (intKind prog w) r vs
  | _, _, .nil => .nil
  | _, _, .cons n t q => .cons (by simp [intKind, Value.isInt]) (itemsAre_of q)
theorem isRow_key {prog : Program} {w : World} {h : Heap} {a : Addr} {r : List Int} (q : IsRow h a r) : IsTupleKey (intKind prog w) h r a :=
  let ⟨vs, n, ho, hi⟩ := q; ⟨_, vs, n, ho, rfl, rfl, itemsAre_of hi⟩
theorem eqAt_rows {s : Shared} {a b : Addr} {r r' : List Int} (hu : A.units < cLine) (x : IsRow s.heap a r) (y : IsRow s.heap b r') : SeqAt.EqAt A s (.ref a) (.ref b) (decide (r = r')) := fun prog w _ _ h =>
  wpAny_eqBool_tuple (knd := intKind prog w) hu (isRow_key x) (isRow_key y) h
theorem eqAt_ints {s : Shared} {a b : Int} {t u : Tok} : SeqAt.EqAt A s (.int a t) (.int b u) (decide (a = b)) := fun prog w E Q h => SeqAt.EqAt.int_int a t b u prog w E Q (by simpa [BEq.beq] using h)

theorem all_eq {α : Type} [DecidableEq α] (S T : List α) : ((List.range (min S.length T.length)).all (fun j => decide (S[j]? = T[j]?)) && S.length == T.length) = decide (S = T) := by
  rw [Bool.eq_iff_iff]
  simp only [Bool.and_eq_true, List.all_eq_true, List.mem_range, decide_eq_true_eq, beq_iff_eq]
  constructor
  · rintro ⟨h1, h2⟩
    apply List.ext_getElem?
    intro i
    by_cases hi : i < S.length
    · exact h1 i (by omega)
    · rw [List.getElem?_eq_none (by omega), List.getElem?_eq_none (by omega)]
  · rintro rfl; exact ⟨fun _ _ => rfl, rfl⟩

theorem rows_at {h : Heap} {S : List (List Int)} {vs : List Value} (q : RelL X h (S.map row) vs) {i : Nat} (hi : i < vs.length) : ∃ b r, vs[i] = .ref b ∧ S[i]? = some r ∧ ¬ X b ∧ IsRow h b r := by
  obtain ⟨a, h1, h2⟩ := relL_get q (List.getElem?_eq_getElem hi)
  rw [List.getElem?_map] at h1
  obtain ⟨r, hr, rfl⟩ := Option.map_eq_some_iff.mp h1
  obtain ⟨b, e, hb, hrow⟩ := rel_row.mp h2
  exact ⟨b, r, e, hr, hb, hrow⟩

theorem rows_pairs {s : Shared} {S T : List (List Int)} {vs us : List Value} (hu : A.units < cLine) (q : RelL X s.heap (S.map row) vs) (q' : RelL X s.heap (T.map row) us) :
    ∀ j (h1 : j < vs.toArray.size) (h2 : j < us.toArray.size), SeqAt.EqAt A s vs.toArray[j] us.toArray[j] (decide (S[j]? = T[j]?)) := fun j h1 h2 => by
  obtain ⟨b, r, e1, e2, _, hr⟩ := rows_at q (i := j) (by simpa using h1)
  obtain ⟨b', r', e1', e2', _, hr'⟩ := rows_at q' (i := j) (by simpa using h2)
  have := eqAt_rows hu hr hr'
  rw [← e1, ← e1'] at this
  have e : decide (S[j]? = T[j]?) = decide (r = r') := by rw [e2, e2']; simp
  rw [e]; simpa using this

theorem op_eq_rows {S T : List (List Int)} {k} (hA : Room (k + 1) A) : Op2 prog w g A X (compareOp .Eq) (rowsT S) (rowsT T) (.bool (decide (S = T))) := fun s u v _ _ ru rv => by
  simp only [Rel] at ru rv
  obtain ⟨a, vs, n, rfl, _, ho, q⟩ := ru
  obtain ⟨b, us, n', rfl, _, ho', q'⟩ := rv
  refine SeqAt.eq_tupleAt (isTuple_of ho) (isTuple_of ho') hA.u (rows_pairs hA.in1.u q q') ⟨keeps_refl s, ?_⟩
  simp only [Rel]
  rw [← all_eq S T]
  have e1 := relL_length q
  have e2 := relL_length q'
  simp only [List.length_map] at e1 e2
  simp [e1, e2]
theorem op_ne_rows {S T : List (List Int)} {k} (hA : Room (k + 1) A) : Op2 prog w g A X (compareOp .NotEq) (rowsT S) (rowsT T) (.bool (decide (S ≠ T))) := fun s u v _ _ ru rv => by
  simp only [Rel] at ru rv
  obtain ⟨a, vs, n, rfl, _, ho, q⟩ := ru
  obtain ⟨b, us, n', rfl, _, ho', q'⟩ := rv
  refine EqBoolInt.of_rcne (SeqAt.RcNeAt.tuples (isTuple_of ho) (isTuple_of ho') hA.u (rows_pairs hA.in1.u q q')) ⟨keeps_refl s, ?_⟩
  simp only [Rel]
  have e1 := relL_length q
  have e2 := relL_length q'
  simp only [List.length_map] at e1 e2
  have e3 := all_eq S T
  rw [e1, e2] at e3
  simp only [List.size_toArray, e3, decide_not]

/- a list and an empty one -/
theorem op_eq_nil {l : List AV} {k} (hA : Room (k + 1) A) : Op2 prog w g A X (compareOp .Eq) (.list l) (.list []) (.bool (l.isEmpty)) := fun s u v _ _ ru rv => by
  simp only [Rel] at ru rv
  obtain ⟨a, vs, n, rfl, _, ho, q⟩ := ru
  obtain ⟨b, us, n', rfl, _, ho', q'⟩ := rv
  have e1 := relL_length q
  have e2 := relL_length q'
  cases us with
  | cons _ _ => simp at e2
  | nil =>
  cases l with
  | nil =>
    cases vs with
    | cons _ _ => simp at e1
    | nil => exact SeqAt.eq_listAt (e := fun _ => true) (isList_of ho) (isList_of ho') rfl hA.u (fun j h1 _ => absurd h1 (by simp)) ⟨keeps_refl s, by simp only [Rel]; rfl⟩
  | cons x l =>
    cases vs with
    | nil => simp at e1
    | cons v vs => exact SeqAt.eq_list_lengthsAt (isList_of ho) (isList_of ho') (by simp) hA.u ⟨keeps_refl s, by simp only [Rel]; rfl⟩
theorem op_ne_nil {l : List AV} {k} (hA : Room (k + 1) A) : Op2 prog w g A X (compareOp .NotEq) (.list l) (.list []) (.bool (!l.isEmpty)) := fun s u v _ _ ru rv => by
  simp only [Rel] at ru rv
  obtain ⟨a, vs, n, rfl, _, ho, q⟩ := ru
  obtain ⟨b, us, n', rfl, _, ho', q'⟩ := rv
  have e1 := relL_length q
  have e2 := relL_length q'
  cases us with
  | cons _ _ => simp at e2
  | nil =>
  cases l with
  | nil =>
    cases vs with
    | cons _ _ => simp at e1
    | nil => exact EqBoolInt.of_rcne (SeqAt.RcNeAt.lists (e := fun _ => true) (isList_of ho) (isList_of ho') rfl hA.u (fun j h1 _ => absurd h1 (by simp))) ⟨keeps_refl s, by simp only [Rel]; rfl⟩
  | cons x l =>
    cases vs with
    | nil => simp at e1
    | cons v vs => exact EqBoolInt.of_rcne (SeqAt.RcNeAt.lists_lengths (isList_of ho) (isList_of ho') (by simp) hA.u) ⟨keeps_refl s, by simp only [Rel]; rfl⟩

/- in -/
open Classical in
theorem any_rows (w : World) {s : Shared} {S : List (List Int)} {r : List Int} {vs : List Value} (q : RelL X s.heap (S.map row) vs) :
    vs.toArray.any (fun v => decide (∃ b, v = Value.ref b ∧ IsRow s.heap b r)) = decide (r ∈ S) := by
  rw [Bool.eq_iff_iff, Array.any_eq_true]
  simp only [decide_eq_true_eq]
  have e := relL_length q
  simp only [List.length_map] at e
  constructor
  · rintro ⟨i, hi, b, h1, h2⟩
    obtain ⟨b', r', e1, e2, _, hr⟩ := rows_at q (i := i) (by simpa using hi)
    have : vs.toArray[i] = vs[i]'(by simpa using hi) := by simp
    rw [this, e1] at h1; cases h1
    have := (isRow_key (prog := P0) (w := w) h2).inj (isRow_key hr)
    rw [this]; exact List.mem_of_getElem? e2
  · intro hm
    obtain ⟨i, hi⟩ := List.mem_iff_getElem?.mp hm
    have hlt : i < vs.length := by
      have := (List.getElem?_eq_some_iff.mp hi).1; omega
    obtain ⟨b', r', e1, e2, _, hr⟩ := rows_at q hlt
    rw [hi] at e2; cases e2
    exact ⟨i, by simpa using hlt, b', by simpa using e1, hr⟩
open Classical in
theorem eqs_rows (w : World) {s : Shared} {S : List (List Int)} {r : List Int} {vs : List Value} {b : Addr} (hu : A.units < cLine) (q : RelL X s.heap (S.map row) vs) (hr : IsRow s.heap b r) :
    ∀ y, y ∈ vs.toArray → SeqAt.EqAt A s y (.ref b) (decide (∃ b, y = Value.ref b ∧ IsRow s.heap b r)) := fun y hy => by
  have hy' : y ∈ vs := by simpa using hy
  obtain ⟨i, hi, rfl⟩ := List.mem_iff_getElem.mp hy'
  obtain ⟨b', r', e1, _, _, hr'⟩ := rows_at q hi
  have := eqAt_rows hu hr' hr
  rw [e1]
  have e : decide (∃ b, Value.ref b' = Value.ref b ∧ IsRow s.heap b r) = decide (r' = r) := by
    rw [Bool.eq_iff_iff]
    simp only [decide_eq_true_eq, Value.ref.injEq, exists_eq_left']
    constructor
    · intro q; exact ((isRow_key (prog := P0) (w := w) q).inj (isRow_key hr')).symm
    · rintro rfl; exact hr'
  rw [e]; exact this
theorem op_notin_rowsT {S : List (List Int)} {r : List Int} {k} (hA : Room (k + 1) A) : Op2 prog w g A X (compareOp .NotIn) (row r) (rowsT S) (.bool (!decide (r ∈ S))) := fun s u v _ _ ru rv => by
  obtain ⟨b, rfl, _, hr⟩ := rel_row.mp ru
  simp only [Rel] at rv
  obtain ⟨a, vs, n, rfl, _, ho, q⟩ := rv
  refine SeqAt.notIn_tupleAt _ (isTuple_of ho) (eqs_rows w hA.in1.u q hr) ⟨keeps_refl s, ?_⟩
  simp only [Rel]; rw [any_rows w q]

theorem ints_any {vs : List Value} {r : List Int} {i : Int} (q : IntsAre vs r) : vs.toArray.any (fun v => match v with | .int j _ => decide (j = i) | _ => false) = decide (i ∈ r) := by
  rw [List.any_toArray]
  induction q with
  | nil => rfl
  | cons n t q ih =>
    rw [List.any_cons, ih]
    by_cases e : n = i
    · subst e; simp
    · have e' : ¬ i = n := fun q => e q.symm
      simp [e, e']
theorem ints_eqs {s : Shared} {vs : List Value} {r : List Int} {i : Int} {t : Tok} (q : IntsAre vs r) : ∀ y, y ∈ vs.toArray → SeqAt.EqAt A s y (.int i t) (match y with | .int j _ => decide (j = i) | _ => false) := fun y hy => by
  have hy' : y ∈ vs := by simpa using hy
  induction q with
  | nil => cases hy'
  | cons n t q ih =>
    rcases List.mem_cons.mp hy' with rfl | hy'
    · exact eqAt_ints
    · exact ih (by simpa using hy') hy'
theorem op_in_intsL {r : List Int} {i : Int} : Op2 prog w g A X (compareOp .In) (.int i) (.list (r.map .int)) (.bool (decide (i ∈ r))) := fun s u v _ _ ru rv => by
  simp only [Rel] at ru rv
  obtain ⟨t, rfl⟩ := ru
  obtain ⟨a, vs, n, rfl, _, ho, q⟩ := rv
  have q := relL_ints.mp q
  refine SeqAt.in_listAt _ (isList_of ho) (ints_eqs q) ⟨keeps_refl s, ?_⟩
  simp only [Rel]; rw [ints_any q]
theorem op_notin_intsL {r : List Int} {i : Int} : Op2 prog w g A X (compareOp .NotIn) (.int i) (.list (r.map .int)) (.bool (!decide (i ∈ r))) := fun s u v _ _ ru rv => by
  simp only [Rel] at ru rv
  obtain ⟨t, rfl⟩ := ru
  obtain ⟨a, vs, n, rfl, _, ho, q⟩ := rv
  have q := relL_ints.mp q
  refine SeqAt.notIn_listAt _ (isList_of ho) (ints_eqs q) ⟨keeps_refl s, ?_⟩
  simp only [Rel]; rw [ints_any q]
theorem op_in_row {r : List Int} {i : Int} : Op2 prog w g A X (compareOp .In) (.int i) (row r) (.bool (decide (i ∈ r))) := fun s u v _ _ ru rv => by
  obtain ⟨a, rfl, _, vs, n, ho, q⟩ := rel_row.mp rv
  simp only [Rel] at ru
  obtain ⟨t, rfl⟩ := ru
  refine SeqAt.in_tupleAt _ (isTuple_of ho) (ints_eqs (vs := vs.toList) (by exact q)) ⟨keeps_refl s, ?_⟩
  simp only [Rel]; rw [← ints_any q]

theorem isRows_dict {prog : Program} {w : World} {h : Heap} {d : Addr} {xs} (q : IsRows X h d xs) : h.DictOfH (tupleKind (intKind prog w)) d xs :=
  let ⟨es, ep, ho, he, hr, hn⟩ := q; ⟨_, es, ep, ho, ⟨rfl, rfl, rfl⟩, rfl, he, fun x hx => isRow_key (hr x hx).2, hn⟩
theorem atKey_isSome {xs : List (List Int × Addr × Value)} {r : List Int} : (atKey xs r).isSome = decide (r ∈ xs.map (·.1)) := by
  unfold atKey
  rw [Option.isSome_map, Bool.eq_iff_iff, List.find?_isSome]
  simp
theorem op_in_rows {l : List (List Int)} {r : List Int} {k} (hA : Room (k + 1) A) : Op2 prog w g A X (compareOp .In) (row r) (.rows l) (.bool (decide (r ∈ l))) := fun s u v _ _ ru rv => by
  obtain ⟨b, rfl, _, hr⟩ := rel_row.mp ru
  simp only [Rel] at rv
  obtain ⟨d, xs, rfl, _, hs, hx, rfl⟩ := rv
  refine wpAny_in_heap (knd := tupleKind (intKind prog w)) (by exact hA.in1.u) (isRow_key hr) (by simpa using hs) (isRows_dict hx) ⟨keeps_tok s _, ?_⟩
  simp only [Rel]; rw [atKey_isSome]
end
end Mine
end

section
open PySem PySem.W PyProof.Rows
set_option Elab.async false
set_option maxRecDepth 100000
namespace Mine

noncomputable def cut {α : Type} (lo hi : Option Int) (l : List α) : List α := (l.drop (kms_lo lo l.length)).take (kms_hi hi l.length - kms_lo lo l.length)

section
variable {prog : Program} {w : World} {g : Heap} {mg mb : Str → Option Value} {A : Around} {env : Env} {X : Addr → Prop} {σ : List (Str × AV)} {E : Value → Shared → Prop}

theorem new_tup {s : Shared} (hX : ∀ b, X b → (∃ o, s.heap.get? b = some o) ∧ g.get? b = none) {l : List AV} {vs : Array Value} (q : RelL X s.heap l vs.toList) :
    Keeps s { s with heap := s.heap.push { cls := .type "tuple", data := .seq vs } } ∧ Rel X (s.heap.push { cls := .type "tuple", data := .seq vs }) (.tup l) (.ref s.heap.objs.size) := by
  have kk := keeps_push s { cls := .type "tuple", data := .seq vs }
  refine ⟨kk, ?_⟩
  simp only [Rel]
  exact ⟨_, vs.toList, 0, rfl, fresh_off hX (Nat.le_refl _), by rw [Array.toArray_toList]; exact Heap.get?_push_size _ rfl, relL_ks q kk⟩
theorem new_list {s : Shared} (hX : ∀ b, X b → (∃ o, s.heap.get? b = some o) ∧ g.get? b = none) {l : List AV} {vs : Array Value} (q : RelL X s.heap l vs.toList) :
    Keeps s { s with heap := s.heap.push { cls := .type "list", data := .seq vs } } ∧ Rel X (s.heap.push { cls := .type "list", data := .seq vs }) (.list l) (.ref s.heap.objs.size) := by
  have kk := keeps_push s { cls := .type "list", data := .seq vs }
  refine ⟨kk, ?_⟩
  simp only [Rel]
  exact ⟨_, vs.toList, 0, rfl, fresh_off hX (Nat.le_refl _), by rw [Array.toArray_toList]; exact Heap.get?_push_size _ rfl, relL_ks q kk⟩

theorem op_cat {l l' : List AV} (hz : l.length + l'.length ≤ 100000) : Op2 prog w g A X (binaryOp .Add) (.tup l) (.tup l') (.tup (l ++ l')) := fun s u v kg hX ru rv => by
  have ru0 := ru
  have rv0 := rv
  simp only [Rel] at ru rv
  obtain ⟨a, vs, n, rfl, ha, ho, q⟩ := ru
  obtain ⟨b, us, n', rfl, hb, ho', q'⟩ := rv
  have e1 := relL_length q
  have e2 := relL_length q'
  by_cases h1 : vs.toArray.isEmpty = true
  · have hv : vs = [] := by simpa using h1
    subst hv
    have hl : l = [] := by simpa using e1
    subst hl
    exact concat_meets ⟨_, ho, rfl⟩ ⟨_, ho', rfl⟩ noFill_tuple_add seq_tuple_add F.slot_tuple_add F.entry_tuple_add (F.args_tuple_add_2 _ _) (AutoSeq1.tuple___add___tuple_tuple_0 a _ n b _ n' h1) ⟨ho, ho', ⟨keeps_refl s, by simpa using rv0⟩⟩
  · by_cases h2 : us.toArray.isEmpty = true
    · have hv : us = [] := by simpa using h2
      subst hv
      have hl : l' = [] := by simpa using e2
      subst hl
      exact concat_meets ⟨_, ho, rfl⟩ ⟨_, ho', rfl⟩ noFill_tuple_add seq_tuple_add F.slot_tuple_add F.entry_tuple_add (F.args_tuple_add_2 _ _) (AutoSeq1.tuple___add___tuple_tuple_1 a _ n b _ n' h1 h2) ⟨ho, ho', ⟨keeps_refl s, by simpa using ru0⟩⟩
    · refine P.add_tuple ho ho' h1 h2 ?_ (by simp only [List.size_toArray]; rw [sizeLine_eq]; omega)
      exact new_tup hX (by simpa using relL_append q q')
theorem op_catL {l l' : List AV} (hz : l.length + l'.length ≤ 100000) : Op2 prog w g A X (binaryOp .Add) (.list l) (.list l') (.list (l ++ l')) := fun s u v kg hX ru rv => by
  simp only [Rel] at ru rv
  obtain ⟨a, vs, n, rfl, ha, ho, q⟩ := ru
  obtain ⟨b, us, n', rfl, hb, ho', q'⟩ := rv
  have e1 := relL_length q
  have e2 := relL_length q'
  refine P.add_list ho ho' ?_ (by simp only [List.size_toArray]; rw [sizeLine_eq]; omega)
  exact new_list hX (by simpa using relL_append q q')

/- items -/
theorem ev_item {value slice : Expr} {pos l} {k : Int} {j : Nat} {r : AV} (hv : Ev prog w g A env X σ value (.tup l)) (hi : Ev prog w g A env X σ slice (.int k)) (hj : seqIndex? k l.length = some j) (hr : l[j]? = some r) (hk : -1000 ≤ k ∧ k ≤ 1000)
    (hs : ∀ (t : Addr) (u : Tok), subscripted slice false (.ref t) (.int k u) = operate [.ref t, .int k u] (getItem (.ref t) (.int k u))) : Ev prog w g A env X σ (.Subscript value slice pos) r := fun s S => by
  refine Subscript_ (wpAny_mono (hv s S) (fun o s₁ ⟨k₁, r₁⟩ => wpAny_mono (hi s₁ (S.ks k₁)) (fun i s₂ ⟨k₂, r₂⟩ => ?_) fun _ _ e => e.elim) fun _ _ e => e.elim)
  have r₁ := rel_ks r₁ k₂
  simp only [Rel] at r₁ r₂
  obtain ⟨a, vs, n, rfl, ha, ho, q⟩ := r₁
  obtain ⟨u, rfl⟩ := r₂
  obtain ⟨v, hv', rv⟩ := relL_get' q hr
  have e1 := relL_length q
  exact item_tupleT (isTup_of ho) (by omega) (by omega) (e1 ▸ hj) hv' ⟨keeps_trans k₁ k₂, rv⟩ (hs _ _)
theorem ev_itemL {value slice : Expr} {pos l} {k : Nat} {r : AV} (hv : Ev prog w g A env X σ value (.list l)) (hi : Ev prog w g A env X σ slice (.int k)) (hr : l[k]? = some r) (hk : k ≤ 1000)
    (hs : ∀ (t : Addr) (u : Tok), subscripted slice false (.ref t) (.int k u) = operate [.ref t, .int k u] (getItem (.ref t) (.int k u))) : Ev prog w g A env X σ (.Subscript value slice pos) r := fun s S => by
  refine Subscript_ (wpAny_mono (hv s S) (fun o s₁ ⟨k₁, r₁⟩ => wpAny_mono (hi s₁ (S.ks k₁)) (fun i s₂ ⟨k₂, r₂⟩ => ?_) fun _ _ e => e.elim) fun _ _ e => e.elim)
  have r₁ := rel_ks r₁ k₂
  simp only [Rel] at r₁ r₂
  obtain ⟨a, vs, n, rfl, ha, ho, q⟩ := r₁
  obtain ⟨u, rfl⟩ := r₂
  obtain ⟨v, hv', rv⟩ := relL_get' q hr
  have hL := isList_of ho
  exact tail_any hL.typeIs slot_list_getitem.lookup (wpAny_getItem_list hL (by omega) (by omega) (by simpa using hv') ⟨keeps_trans k₁ k₂, rv⟩) (hs _ _)

/- slices -/
variable (prog w g A env X σ) in
noncomputable def EvP : Option Expr → Option Int → Prop
  | none, none => True
  | some e, some i => Ev prog w g A env X σ e (.int i)
  | _, _ => False
theorem evp_none : EvP prog w g A env X σ none none := trivial
theorem evp_some {e i} (h : Ev prog w g A env X σ e (.int i)) : EvP prog w g A env X σ (some e) (some i) := h
theorem evp_part {e i} (h : EvP prog w g A env X σ e i) (s : Shared) (S : St g env X σ s.heap) : wpAny (model prog w) A (evalPart e env) (fun v s' => Keeps s s' ∧ IsPart v i) F0 s := by
  cases e with
  | none =>
    cases i with
    | none => rw [evalPart_none]; exact wpAny_pure ⟨keeps_refl s, .none⟩
    | some _ => exact h.elim
  | some e =>
    cases i with
    | none => exact h.elim
    | some i =>
      rw [evalPart_some]
      refine wpAny_mono (h s S) (fun v s' ⟨k, r⟩ => ⟨k, ?_⟩) fun _ _ e => e
      simp only [Rel] at r; obtain ⟨t, rfl⟩ := r; exact .int _ _

theorem slicePart_any {s : Shared} {v : Value} {k : Option Int} {Q : Option Int → Shared → Prop} (hv : IsPart v k) (h : Q k s) : wpAny (model prog w) A (Builtin.Slice.slicePartIndex v) Q E s := by
  cases hv with
  | none => exact slicePart_none h
  | int i t => exact slicePart_int h
theorem adjust_any (lo hi : Option Int) (n : Nat) : Builtin.Slice.sliceAdjust lo hi 1 (n : Int) = (((kms_lo lo n : Nat) : Int), ((kms_hi hi n : Nat) : Int)) := by
  unfold Builtin.Slice.sliceAdjust
  have h1 : ¬ ((1 : Int) < 0) := by omega
  simp only [h1, if_false]
  congr 1
  · cases lo with
    | none => rfl
    | some v => by_cases h : v < 0 <;> simp only [kms_lo, h, if_true, if_false] <;> omega
  · cases hi with
    | none => rfl
    | some v => by_cases h : v < 0 <;> simp only [kms_hi, h, if_true, if_false] <;> omega
theorem places_any (a b : Nat) : Builtin.Slice.slicePlaces (a : Int) (b : Int) 1 = b - a := by
  unfold Builtin.Slice.slicePlaces
  have h1 : (1 : Int) > 0 := by omega
  simp only [h1, if_true, Int.ediv_one]
  split <;> omega
theorem sliceApplied_any {s : Shared} {sl : Addr} {vl vu : Value} {lo hi : Option Int} {n : Nat} {Q : Int × Int × Nat → Shared → Prop} (hs : s.heap.IsSliceOf sl vl vu .none) (pl : IsPart vl lo) (pu : IsPart vu hi)
    (h : Q (((kms_lo lo n : Nat) : Int), 1, kms_hi hi n - kms_lo lo n) s) : wpAny (model prog w) A (Builtin.Slice.sliceApplied (.ref sl) (pure (n : Int))) Q E s := by
  obtain ⟨os, hos, hcs, hds⟩ := id hs
  unfold Builtin.Slice.sliceApplied Builtin.Slice.sliceFields
  refine wpAny_bind (wpAny_bind (wpAny_field hos hds (x := vl) rfl (wpAny_bind (wpAny_field hos hds (x := vu) rfl (wpAny_bind (wpAny_field hos hds (x := .none) rfl (wpAny_pure ?_)))))))
  refine wpAny_bind (slicePart_none ?_)
  show wpAny _ _ (if ((1 : Int) == 0) = true then _ else _) _ _ s
  rw [if_neg (by decide)]
  refine wpAny_bind (slicePart_any pl (wpAny_bind (slicePart_any pu (wpAny_bind (wpAny_pure ?_)))))
  show wpAny _ _ (match Builtin.Slice.sliceAdjust lo hi 1 (n : Int) with | (lo, hi) => pure (lo, (1 : Int), Builtin.Slice.slicePlaces lo hi 1)) _ _ s
  rw [adjust_any lo hi n]
  show wpAny _ _ (pure (_, (1 : Int), Builtin.Slice.slicePlaces (kms_lo lo n : Int) (kms_hi hi n : Int) 1)) _ _ s
  rw [places_any]
  exact wpAny_pure h
theorem pick_any (xs : Array Value) (a k : Nat) : ((List.range k).filterMap fun (j : Nat) => xs[((a : Int) + (j : Int) * 1).toNat]?).toArray = ((xs.toList.drop a).take k).toArray := by
  have e : (fun (j : Nat) => xs[((a : Int) + (j : Int) * 1).toNat]?) = fun j => xs[a + j]? := by
    funext j
    have : ((a : Int) + (j : Int) * 1).toNat = a + j := by omega
    rw [this]
  rw [e]
  have := pick_run xs a k
  rw [List.filterMap_map] at this
  exact congrArg _ this

theorem getItem_cut {s : Shared} {t sl : Addr} {vs : List Value} {n : Nat} {vl vu : Value} {lo hi : Option Int} {Q : Value → Shared → Prop} (ho : s.heap.get? t = some (seqObj "tuple" vs.toArray n)) (hs : s.heap.IsSliceOf sl vl vu .none) (pl : IsPart vl lo) (pu : IsPart vu hi)
    (h1 : cut lo hi vs = vs → Q (.ref t) s) (h2 : Q (.ref s.heap.objs.size) { s with heap := s.heap.push { cls := .type "tuple", data := .seq (cut lo hi vs).toArray } }) (hz : vs.length ≤ 100000) : wpAny (model prog w) A (getItem (.ref t) (.ref sl)) Q E s := by
  have ht := isTup_of ho
  obtain ⟨os, hos, hcs, hds⟩ := id hs
  have hTs : s.TypeIs (.ref sl) "slice" := ⟨os, hos, hcs⟩
  unfold getItem
  try with_reducible refine wpAny_holding ?_
  first | refine wpAny_bind (wpAny_pure ?_) | skip
  refine wpAny_bind (wpAny_sequenceKey ht.typeIs (by decide) ?_)
  refine wpAny_bind (wpAny_callSpecial?_slot (name := Str.ofString "__getitem__") ht.typeIs slot_tuple_getitem
    (wpAny_call_entry slot_tuple_getitem ht.typeIs entry_tuple_getitem ?_ (args_tuple_getitem _ _)))
  show wpAny _ _ (Builtin.Tuple.tupleItemsOf (.ref t) >>= _) _ _ s
  refine wpAny_bind (tupleItemsOf_ ht ?_)
  refine wpAny_bind (wpAny_typeOf hTs ?_)
  rw [if_pos (by decide)]
  refine wpAny_bind (sliceApplied_any (lo := lo) (hi := hi) (n := vs.toArray.size) hs pl pu ?_)
  show wpAny _ _ (if (((kms_lo lo vs.toArray.size : Nat) : Int) == 0 && (1 : Int) == 1 && (kms_hi hi vs.toArray.size - kms_lo lo vs.toArray.size) == vs.toArray.size) = true then _ else _) _ _ s
  by_cases hw : (((kms_lo lo vs.toArray.size : Nat) : Int) == 0 && (1 : Int) == 1 && (kms_hi hi vs.toArray.size - kms_lo lo vs.toArray.size) == vs.toArray.size) = true
  · rw [if_pos hw]
    have e : cut lo hi vs = vs := by
      simp only [List.size_toArray, Bool.and_eq_true, beq_iff_eq] at hw
      unfold cut
      rw [show kms_lo lo vs.length = 0 by omega, List.drop_zero]
      exact List.take_of_length_le (by omega)
    have hty : wpAny (model prog w) A.in1 (Builtin.Tuple.tupleIsExact (.ref t)) (fun b s' => b = true ∧ s' = s) E s := by
      unfold Builtin.Tuple.tupleIsExact
      exact wpAny_bind (wpAny_typeOf ht.typeIs (wpAny_pure ⟨by decide, rfl⟩))
    refine wpAny_bind (wpAny_mono hty (fun b s' hb => ?_) fun _ _ e => e)
    obtain ⟨rfl, rfl⟩ := hb
    rw [if_pos rfl]
    first
      | exact wpAny_bind (wpAny_rule (wpAny_pure ⟨_, rfl, wpAny_pure (h1 e)⟩))
      | exact wpAny_bind (wpAny_rule (wpAny_bind (wpAny_pure (wpAny_pure ⟨_, rfl, wpAny_pure (h1 e)⟩))))
  · rw [if_neg hw, pick_any vs.toArray (kms_lo lo vs.toArray.size)]
    have hc : ((vs.toArray.toList.drop (kms_lo lo vs.toArray.size)).take (kms_hi hi vs.toArray.size - kms_lo lo vs.toArray.size)) = cut lo hi vs := by simp [cut]
    rw [hc]
    have hdrop : sizeOk (.seq (cut lo hi vs).toArray) := by
      show (cut lo hi vs).toArray.size ≤ sizeLine
      rw [List.size_toArray, sizeLine_eq]
      unfold cut
      simp only [List.length_take, List.length_drop]
      omega
    first
      | exact wpAny_bind (m := Builtin.Tuple.tupleExact _) (wpAny_newObj_type (wpAny_pure ⟨_, rfl, wpAny_pure h2⟩) hdrop)
      | exact wpAny_bind (m := Builtin.Tuple.tupleExact _) (wpAny_newObj_type (wpAny_bind (wpAny_pure (wpAny_pure ⟨_, rfl, wpAny_pure h2⟩))) hdrop)
      | exact wpAny_bind (wpAny_bind (m := Builtin.Tuple.tupleExact _) (wpAny_newObj_type (wpAny_pure (wpAny_pure ⟨_, rfl, wpAny_pure h2⟩)) hdrop))
      | exact wpAny_bind (wpAny_bind (m := Builtin.Tuple.tupleExact _) (wpAny_newObj_type (wpAny_pure ⟨_, rfl, wpAny_pure h2⟩) hdrop))

theorem relL_cut {h : Heap} {l : List AV} {vs : List Value} {lo hi : Option Int} (q : RelL X h l vs) : RelL X h (cut lo hi l) (cut lo hi vs) := by
  unfold cut
  rw [relL_length q]
  exact relL_take (relL_drop q _) _

theorem ev_slice {value : Expr} {lower upper : Option Expr} {lo hi : Option Int} {p pos l} (H : Fm g env X) (hv : Ev prog w g A env X σ value (.tup l)) (hl : EvP prog w g A env X σ lower lo) (hu : EvP prog w g A env X σ upper hi) (hz : l.length ≤ 100000) :
    Ev prog w g A env X σ (.Subscript value (.Slice lower upper none p) pos) (.tup (cut lo hi l)) := fun s S => by
  refine Subscript_ (wpAny_mono (hv s S) (fun o s₁ ⟨k₁, r₁⟩ => wpAny_Slice (wpAny_mono (evp_part hl s₁ (S.ks k₁)) (fun vl s₂ ⟨k₂, pl⟩ => wpAny_mono (evp_part hu s₂ ((S.ks k₁).ks k₂)) (fun vu s₃ ⟨k₃, pu⟩ => ?_) fun _ _ e => e.elim) fun _ _ e => e.elim)) fun _ _ e => e.elim)
  rw [evalPart_none]
  refine wpAny_pure ?_
  have kk := keeps_push s₃ { cls := .type "slice", data := .fields #[vl, vu, .none] }
  have S₄ := (((S.ks k₁).ks k₂).ks k₃).ks kk
  have kA := keeps_trans (keeps_trans (keeps_trans k₁ k₂) k₃) kk
  have r₄ := rel_ks (rel_ks (rel_ks r₁ k₂) k₃) kk
  have r₄' := r₄
  simp only [Rel] at r₄
  obtain ⟨a, vs, n, rfl, ha, ho, q⟩ := r₄
  have hlen := relL_length q
  refine tail_any (ops := [.ref s₃.heap.objs.size, .ref a]) (isTup_of ho).typeIs slot_tuple_getitem.lookup (getItem_cut (lo := lo) (hi := hi) ho (Heap.IsSliceOf.new ..) pl pu (fun e => ⟨kA, ?_⟩) ?_ (by omega)) rfl
  · have e' : cut lo hi l = l := by
      have h1 := congrArg List.length e
      have q2 := relL_cut (lo := lo) (hi := hi) q
      have h2 := relL_length q2
      rw [e, ← hlen] at h2
      unfold cut at h2 ⊢
      simp only [List.length_take, List.length_drop] at h2
      by_cases h0 : l.length = 0
      · have : l = [] := List.eq_nil_of_length_eq_zero h0
        subst this; simp
      · have : kms_lo lo l.length = 0 := by omega
        rw [this, List.drop_zero]
        exact List.take_of_length_le (by omega)
    rw [e']; exact r₄'
  · obtain ⟨k5, r5⟩ := new_tup (vs := (cut lo hi vs).toArray) (l := cut lo hi l) (live_of H S₄) (by simpa using relL_cut q)
    exact ⟨keeps_trans kA k5, r5⟩

/-- x[::-1] of a list -/
theorem ev_rev {value e : Expr} {p pos l} (H : Fm g env X) (hv : Ev prog w g A env X σ value (.list l)) (he : Ev prog w g A env X σ e (.int (-1))) (hz : l.length ≤ 100000) :
    Ev prog w g A env X σ (.Subscript value (.Slice none none (some e) p) pos) (.list l.reverse) := fun s S => by
  refine Subscript_ (wpAny_mono (hv s S) (fun o s₁ ⟨k₁, r₁⟩ => wpAny_Slice ?_) fun _ _ e => e.elim)
  rw [evalPart_none]
  refine wpAny_pure ?_
  refine wpAny_pure ?_
  rw [evalPart_some]
  refine wpAny_mono (he s₁ (S.ks k₁)) (fun v s₃ ⟨k₃, r₃⟩ => ?_) fun _ _ e => e.elim
  simp only [Rel] at r₃
  obtain ⟨t, rfl⟩ := r₃
  have kk := keeps_push s₃ { cls := .type "slice", data := .fields #[.none, .none, .int (-1) t] }
  have S₄ := ((S.ks k₁).ks k₃).ks kk
  have kA := keeps_trans (keeps_trans k₁ k₃) kk
  have r₄ := rel_ks (rel_ks r₁ k₃) kk
  simp only [Rel] at r₄
  obtain ⟨a, vs, n, rfl, ha, ho, q⟩ := r₄
  have hlen := relL_length q
  refine tail_any (ops := [.ref a, .ref s₃.heap.objs.size]) (isList_of ho).typeIs slot_list_getitem.lookup (wpAny_getItem_list_slice (isList_of ho) (Heap.IsSliceOf.new ..) .none .none (.int (-1) t) (by decide) ?_ (by rw [List.size_toArray, sizeLine_eq]; omega)) rfl
  rw [krv_pick]
  obtain ⟨k5, r5⟩ := new_list (vs := vs.toArray.toList.reverse.toArray) (l := l.reverse) (live_of H S₄) (by simpa using relL_rev q)
  exact ⟨keeps_trans kA k5, r5⟩

/- built-ins -/
theorem cl_len {l : List AV} (hz : l.length ≤ 100000) : Cl prog w g A X (.builtin "len") [.tup l] (.int l.length) := fun s vs _ _ r => by
  match vs, r with
  | [v], r =>
    simp only [RelL, Rel] at r
    obtain ⟨⟨a, vs, n, rfl, _, ho, q⟩, _⟩ := r
    have e := relL_length q
    refine PyProof.Rows.len_tuple (isTup_of ho) (by simp only [List.size_toArray]; omega) ⟨keeps_tok s _, ?_⟩
    simp only [Rel]; exact ⟨_, by rw [e, List.size_toArray]⟩
  | [], r => simp only [RelL] at r
  | _ :: _ :: _, r => simp only [RelL] at r; exact r.2.elim
theorem cl_lenL {l : List AV} (hz : l.length ≤ 100000) : Cl prog w g A X (.builtin "len") [.list l] (.int l.length) := fun s vs _ _ r => by
  match vs, r with
  | [v], r =>
    simp only [RelL, Rel] at r
    obtain ⟨⟨a, vs, n, rfl, _, ho, q⟩, _⟩ := r
    have e := relL_length q
    refine PyProof.Rows.len_list (isList_of ho) (by simp only [List.size_toArray]; omega) ⟨keeps_tok s _, ?_⟩
    simp only [Rel]; exact ⟨_, by rw [e, List.size_toArray]⟩
  | [], r => simp only [RelL] at r
  | _ :: _ :: _, r => simp only [RelL] at r; exact r.2.elim
theorem cl_tuple {l : List AV} (hz : l.length ≤ 100000) : Cl prog w g A X (.type "tuple") [.list l] (.tup l) := fun s vs kg hX r => by
  match vs, r with
  | [v], r =>
    simp only [RelL, Rel] at r
    obtain ⟨⟨a, vs, n, rfl, _, ho, q⟩, _⟩ := r
    have e := relL_length q
    refine call_tuple_list (isList_of ho) (fun h' hk => ?_) (by rw [List.size_toArray, sizeLine_eq]; omega)
    have k1 : Keeps s { s with heap := h' } := ⟨h', s.toks, rfl, hk⟩
    obtain ⟨k5, r5⟩ := new_tup (X := X) (g := g) (s := { s with heap := h' }) (vs := vs.toArray) (l := l) (fun b hb => ⟨let ⟨o, ho⟩ := (hX b hb).1; ⟨o, hk b o ho⟩, (hX b hb).2⟩) (relL_ks q k1)
    exact ⟨keeps_trans k1 k5, r5⟩
  | [], r => simp only [RelL] at r
  | _ :: _ :: _, r => simp only [RelL] at r; exact r.2.elim
theorem cl_list {l : List AV} (hz : l.length ≤ 100000) : Cl prog w g A X (.type "list") [.tup l] (.list l) := fun s vs kg hX r => by
  match vs, r with
  | [v], r =>
    simp only [RelL, Rel] at r
    obtain ⟨⟨a, vs, n, rfl, _, ho, q⟩, _⟩ := r
    have e := relL_length q
    refine call_list_seq a (.inr rfl) ho rfl rfl (fun h' c hk hn => ?_) (by rw [List.size_toArray, sizeLine_eq]; omega)
    have k1 : Keeps s { s with heap := h' } := ⟨h', s.toks, rfl, hk⟩
    refine ⟨k1, ?_⟩
    simp only [Rel]
    exact ⟨_, vs, c, rfl, fresh_off hX (Nat.le_refl _), hn, relL_ks q k1⟩
  | [], r => simp only [RelL] at r
  | _ :: _ :: _, r => simp only [RelL] at r; exact r.2.elim
theorem cl_range {n : Nat} : Cl prog w g A X (.type "range") [.int n] (.rng n) := fun s vs kg hX r => by
  match vs, r with
  | [v], r =>
    simp only [RelL, Rel] at r
    obtain ⟨⟨t, rfl⟩, _⟩ := r
    refine call_range_1 ⟨⟨_, _, rfl, fun b o e => Heap.get?_push_of_some _ e⟩, ?_⟩
    simp only [Rel]
    exact ⟨_, _, _, _, rfl, fresh_off hX (Nat.le_refl _), IsRange.new ..⟩
  | [], r => simp only [RelL] at r
  | _ :: _ :: _, r => simp only [RelL] at r; exact r.2.elim
theorem cl_isinst {l : List AV} : Cl prog w g A X (.builtin "isinstance") [.tup l, .val (.type "tuple")] (.bool true) := fun s vs kg hX r => by
  match vs, r with
  | [v, u], r =>
    simp only [RelL, Rel] at r
    obtain ⟨⟨a, vs, n, rfl, _, ho, q⟩, rfl, _⟩ := r
    exact IsiPair.tuple_tuple ho rfl ⟨keeps_refl s, by simp only [Rel]⟩
  | [], r => simp only [RelL] at r
  | [_], r => simp only [RelL] at r; exact r.2.elim
  | _ :: _ :: _ :: _, r => simp only [RelL] at r; exact r.2.2.elim
end
end Mine
end

section
open PySem PySem.W PyProof.Rows
set_option Elab.async false
set_option maxRecDepth 100000
namespace Mine

section
variable {prog : Program} {w : World} {g : Heap} {mg mb : Str → Option Value} {A : Around} {env : Env} {X X' : Addr → Prop} {σ σ' : List (Str × AV)} {E : Value → Shared → Prop}

theorem Fm.mono (H : Fm g env X) (h1 : ∀ b, X b → X' b) (h2 : ∀ b, X' b → g.get? b = none) : Fm g env X' :=
  ⟨H.fk, H.gl, H.bl, h1 _ H.xl, fun n c hc => ⟨h1 _ (H.xc n c hc).1, (H.xc n c hc).2⟩, H.inj, h2⟩
theorem none_of {h : Heap} (k : Kp g h) {b : Addr} (e : h.get? b = none) : g.get? b = none := by
  cases q : g.get? b with
  | none => rfl
  | some o => rw [k b o q] at e; cases e

/- iterators -/
noncomputable def OkIter (o : Obj) : Prop := ∃ T vs, o.cls = .type T ∧ o.data = .fields vs ∧ (["enumerate", "zip", "dict_itemiterator", "dict_reverseitemiterator", "odict_iterator", "itertools.zip_longest", "itertools.pairwise"].contains T) = false

/-- what the iterator at I has still to give: l from i on -/
noncomputable def IterAt (prog : Program) (w : World) (A : Around) (X : Addr → Prop) (h : Heap) (I : Addr) (l : List AV) (i : Nat) : Prop :=
  ∃ fp P Stw, Walks prog w A I fp [I] l.length P Stw ∧ (∀ b ∈ fp, b = I ∨ (¬ X b ∧ ∃ o, h.get? b = some o)) ∧ Stw i h ∧ (∀ j v a, P j v → l[j]? = some a → Rel X h a v) ∧
    ∀ j h, Stw j h → ∃ o, h.get? I = some o ∧ OkIter o

inductive Iters : AV → List AV → Prop
  | tup (l) : Iters (.tup l) l
  | list (l) : Iters (.list l) l
  | rng (n : Nat) (h : n ≤ 100000) : Iters (.rng n) ((List.range n).map fun (i : Nat) => .int i)

theorem IterAt.move {h h' : Heap} {I l i} (x : IterAt prog w A X h I l i) (M : Move X h X' h') (e : ∀ o, h.get? I = some o → h'.get? I = some o) : IterAt prog w A X' h' I l i := by
  obtain ⟨fp, P, Stw, W, hf, st, hr, ho⟩ := x
  refine ⟨fp, P, Stw, W, fun b hb => ?_, W.frame _ _ _ st fun b hb o hbo => ?_, fun j v a hp ha => (hr j v a hp ha).move M, ho⟩
  · rcases hf b hb with q | ⟨q, o, ho⟩
    · exact .inl q
    · exact .inr ⟨(M _ _ q ho).1, o, (M _ _ q ho).2⟩
  · rcases hf b hb with q | ⟨q, _⟩
    · subst q; exact e o hbo
    · exact (M _ _ q hbo).2
theorem IterAt.ok {h : Heap} {I l i} (x : IterAt prog w A X h I l i) : ∃ o, h.get? I = some o ∧ OkIter o := by
  obtain ⟨fp, P, Stw, W, hf, st, hr, ho⟩ := x
  exact ho i h st

theorem iter_next {s : Shared} {I l i} (x : IterAt prog w A X s.heap I l i) (hI : X I) (hi : i ≤ l.length) {Q : Option Value → Shared → Prop}
    (h1 : ∀ a v s', l[i]? = some a → KeepsX (· = I) s s' → Rel X s'.heap a v → IterAt prog w A X s'.heap I l (i + 1) → Q (some v) s')
    (h2 : ∀ s', l.length = i → KeepsX (· = I) s s' → Q none s') : wpAny (model prog w) A (pyNext (.ref I)) Q E s := by
  obtain ⟨fp, P, Stw, W, hf, st, hr, ho⟩ := x
  by_cases hlt : i < l.length
  · refine W.item i s Q E hlt st fun v h' tk hp st' hk => ?_
    have kI : KeepsX (· = I) s { s with heap := h', toks := tk } := ⟨h', tk, rfl, fun b o hb e => hk b o (by simpa using hb) e⟩
    have kX : KpX X s.heap h' := kI.kp.mono fun b hb => hb ▸ hI
    have hg : l[i]? = some l[i] := by simp [hlt]
    refine h1 l[i] v _ hg kI ((hr i v _ hp hg).move kX.move) ⟨fp, P, Stw, W, fun b hb => ?_, st', fun j v a hp ha => (hr j v a hp ha).move kX.move, ho⟩
    rcases hf b hb with q | ⟨q, o, ho⟩
    · exact .inl q
    · exact .inr ⟨q, o, kX b o q ho⟩
  · have e : l.length = i := by omega
    exact W.done s Q E (e ▸ st) fun h' tk hk => h2 _ e ⟨h', tk, rfl, fun b o hb q => hk b o (by simpa using hb) q⟩

theorem okIter_of {h : Heap} {I : Addr} {T : String} {vs : Array Value} {o : Obj} (ho : h.get? I = some o) (hc : o.cls = .type T) (hd : o.data = .fields vs)
    (hT : (["enumerate", "zip", "dict_itemiterator", "dict_reverseitemiterator", "odict_iterator", "itertools.zip_longest", "itertools.pairwise"].contains T) = false) : ∃ o, h.get? I = some o ∧ OkIter o := ⟨o, ho, T, vs, hc, hd, hT⟩

theorem iter_src {A' : Around} {s : Shared} {src : AV} {l : List AV} {v : Value} (hh : A'.handled = none) (hi : Iters src l) (r : Rel X s.heap src v) :
    wpAny (model prog w) A (pyIter v) (fun it s' => Keeps s s' ∧ it = .ref s.heap.objs.size ∧ IterAt prog w A' (fun b => X b ∨ b = s.heap.objs.size) s'.heap s.heap.objs.size l 0 ∧ ∃ o, s'.heap.get? s.heap.objs.size = some o) F0 s := by
  have MX : Move X s.heap (fun b => X b ∨ b = s.heap.objs.size) s.heap := fun b o hb e => ⟨fun q => q.elim hb fun q => Nat.ne_of_lt (Heap.lt_size e) q, e⟩
  cases hi with
  | tup l =>
    simp only [Rel] at r
    obtain ⟨a, vs, n, rfl, ha, ho, q⟩ := r
    refine wpAny_pyIter_tuple (isTuple_of ho) ?_
    have kk := keeps_push s { cls := .type "tuple_iterator", data := .fields #[.ref a, .int 0 0] }
    have hne : a ≠ s.heap.objs.size := Nat.ne_of_lt (Heap.lt_size ho)
    have e : vs.toArray.size = l.length := by rw [List.size_toArray, relL_length q]
    have W := Walks.tuple (prog := prog) (w := w) (A := A') hh s.heap.objs.size a hne vs.toArray
    rw [e] at W
    refine ⟨kk, rfl, ⟨_, _, _, W, fun b hb => ?_, ⟨⟨_, Heap.get?_push_size _ rfl, rfl, rfl⟩, isTuple_of ((keeps_kp kk) _ _ ho)⟩, fun j v a' hp ha' => ?_, fun j h st => ?_⟩, _, Heap.get?_push_size _ rfl⟩
    · simp only [List.mem_cons, List.not_mem_nil, or_false] at hb
      rcases hb with rfl | rfl
      · exact .inl rfl
      · exact .inr ⟨(MX _ _ ha ho).1, _, (keeps_kp kk) _ _ ho⟩
    · obtain ⟨u, hu, ru⟩ := relL_get' (relL_ks (q.move MX) kk) ha'
      have : vs[j]? = some v := by simpa using hp
      rw [hu] at this; cases this; exact ru
    · obtain ⟨⟨o, ho, hc, hd⟩, _⟩ := st
      exact okIter_of ho hc hd rfl
  | list l =>
    simp only [Rel] at r
    obtain ⟨a, vs, n, rfl, ha, ho, q⟩ := r
    refine wpAny_pyIter_list (isList_of ho) ?_
    have kk := keeps_push s { cls := .type "list_iterator", data := .fields #[.ref a, .int 0 0] }
    have hne : a ≠ s.heap.objs.size := Nat.ne_of_lt (Heap.lt_size ho)
    have e : vs.toArray.size = l.length := by rw [List.size_toArray, relL_length q]
    have W := Walks.list (prog := prog) (w := w) (A := A') hh s.heap.objs.size a hne vs.toArray
    rw [e] at W
    refine ⟨kk, rfl, ⟨_, _, _, W, fun b hb => ?_, ⟨⟨_, Heap.get?_push_size _ rfl, rfl, rfl⟩, isList_of ((keeps_kp kk) _ _ ho)⟩, fun j v a' hp ha' => ?_, fun j h st => ?_⟩, _, Heap.get?_push_size _ rfl⟩
    · simp only [List.mem_cons, List.not_mem_nil, or_false] at hb
      rcases hb with rfl | rfl
      · exact .inl rfl
      · exact .inr ⟨(MX _ _ ha ho).1, _, (keeps_kp kk) _ _ ho⟩
    · obtain ⟨u, hu, ru⟩ := relL_get' (relL_ks (q.move MX) kk) ha'
      have : vs[j]? = some v := by simpa using hp
      rw [hu] at this; cases this; exact ru
    · obtain ⟨⟨o, ho, hc, hd⟩, _⟩ := st
      exact okIter_of ho hc hd rfl
  | rng n hn =>
    simp only [Rel] at r
    obtain ⟨a, t, u, z, rfl, ha, ho⟩ := r
    refine wpAny_pyIter_range ho (small_one (by omega) (by omega) (by omega) (by omega)) ?_
    have kk := keeps_push s { cls := .type "range_iterator", data := .fields #[rawInt 0, rawInt (Builtin.Range.rangeSize 0 n 1), rawInt 1] }
    have e : Builtin.Range.rangeSize 0 n 1 = n := by rw [rangeSize_one]; split <;> omega
    have W := Walks.range (prog := prog) (w := w) (A := A') hh s.heap.objs.size 0 1 n
    refine ⟨kk, rfl, ⟨_, _, _, by rw [List.length_map, List.length_range]; exact W, fun b hb => .inl (by simpa using hb), ?_, fun j v a' hp ha' => ?_, fun j h st => okIter_of st rfl rfl rfl⟩, _, Heap.get?_push_size _ rfl⟩
    · show IsRangeIter _ _ _ _ _
      rw [e]
      simpa using Heap.get?_push_size _ rfl
    · obtain ⟨t, rfl⟩ := hp
      rw [List.getElem?_map] at ha'
      by_cases hj : j < n
      · simp [hj] at ha'
        subst ha'
        simp only [Rel]; exact ⟨t, by simp⟩
      · simp [hj] at ha'

/- the list that a comprehension builds -/
noncomputable def Acc (X : Addr → Prop) (h : Heap) (D : Addr) (l : List AV) : Prop := ∃ vs : List Value, h.PlainList D vs.toArray ∧ RelL X h l vs
theorem Acc.move {h h' : Heap} {D l} (x : Acc X h D l) (M : Move X h X' h') (e : ∀ o, h.get? D = some o → h'.get? D = some o) : Acc X' h' D l :=
  let ⟨vs, p, r⟩ := x; ⟨vs, p.at e, r.move M⟩

theorem acc_push {s : Shared} {D : Addr} {l : List AV} {a : AV} {v : Value} (hD : X D) (x : Acc X s.heap D l) (r : Rel X s.heap a v) (hz : l.length ≤ 100000) {Q : Value → Shared → Prop}
    (h : ∀ s', KeepsX (· = D) s s' → (∃ o, s'.heap.get? D = some o) → Acc X s'.heap D (l ++ [a]) → Q .none s') : wpAny (model prog w) A (call (.builtin "list.append") [.ref D, v]) Q E s := by
  obtain ⟨vs, p, q⟩ := x
  have e := relL_length q
  refine wpAny_list_append_plain (hsz := by rw [List.size_toArray, sizeLine_eq]; omega) p fun h' p' hs' => ?_
  have kx : KpX (· = D) s.heap h' := fun b o hb e => hs'.extBut b o hb e
  have kX : KpX X s.heap h' := kx.mono fun b hb => hb ▸ hD
  have p'' : h'.PlainList D (vs ++ [v]).toArray := by simpa using p'
  refine h _ ⟨h', s.toks, rfl, kx⟩ (let ⟨_, q⟩ := p'; ⟨_, q⟩) ⟨vs ++ [v], p'', relL_append (q.move kX.move) ?_⟩
  simp only [RelL]; exact ⟨r.move kX.move, trivial⟩

/- the target -/
variable (prog w g A env X) in
noncomputable def Asg (Z : Addr → Prop) (tgt : Expr) (a : AV) (σ σ' : List (Str × AV)) : Prop := ∀ (s : Shared) (I : Addr) (v : Value), St g env X σ s.heap → Rel X s.heap a v → (∃ o, s.heap.get? I = some o ∧ OkIter o) →
  wpAny (model prog w) A (letOwnedTupleGo tgt (.ref I) v) (fun _ s₁ => wpAny (model prog w) A (assign tgt env v) (fun _ s₂ => KeepsX Z s s₂ ∧ St g env X σ' s₂.heap) F0 s₁) F0 s

theorem asg_name {x : Str} {p : Pos} {a : AV} {Z : Addr → Prop} (H : Fm g env X) (hk : env.kindOf x = some .local ∨ env.kindOf x = some .cell ∧ ∃ c, env.cells.lookup x = some c) (hZ : ∀ b, Slot env x b → Z b) :
    Asg prog w g A env X Z (.Name x p) a σ ((x, a) :: σ) := fun s I v S r _ => wpAny_pure (wpAny_assign_Name (store_name' H S r hk fun s' k S' => ⟨k.mono hZ, S'⟩))

variable (prog w g A env X σ) in
noncomputable def Tests (ifs : List Expr) (b : Bool) : Prop := ∀ s : Shared, St g env X σ s.heap →
  wpAny (model prog w) A (forIn ifs true fun c r => if r = true then do let ok ← isTrue c env (eval c env); pure (ForInStep.yield ok) else pure (ForInStep.yield r)) (fun ok s' => Keeps s s' ∧ ok = b) F0 s
theorem tests_nil : Tests prog w g A env X σ [] true := fun s _ => wpAny_tests_nil ⟨keeps_refl s, rfl⟩
theorem tests_one {c b} (h : Tr prog w g A env X σ c b) : Tests prog w g A env X σ [c] b := fun s S => wpAny_tests_one (h s S)

theorem St.kx {s s' : Shared} {Z : Addr → Prop} (H : Fm g env X) (S : St g env X σ s.heap) (k : KeepsX Z s s') (hZ : ∀ b, Z b → X b ∧ ¬ Own env b ∧ ∃ o, s'.heap.get? b = some o) : St g env X σ s'.heap := by
  refine S.move (k.kp.mono fun b hb => (hZ b hb).1).move (fun b o e => k.kp b o (fun q => ?_) (S.kg b o e)) (fun b o hb e => k.kp b o (fun q => (hZ b q).2.1 hb) e) fun b hb => ?_
  · have := H.xg b (hZ b q).1; rw [e] at this; cases this
  · obtain ⟨o, ho⟩ := S.lv b hb
    by_cases q : Z b
    · exact (hZ b q).2.2
    · exact ⟨o, k.kp b o q ho⟩

/- the loop -/
theorem comp_core {α : Type} {elt : Expr} {gens : List Comprehension} {scope : Scope} {pos p : Pos} {d : Nat} {I D : Addr} {CONT : Value → Sem Fin} {xs : List α} {enc : α → AV} {gf : α → List AV} {Z X : Addr → Prop} {outs₀ : List AV} {s : Shared}
    (hturn : compTurn (.ListComp elt gens scope pos) d (.ref I) (.ref D) env = (standAt p >>= fun _ => pyNext (.ref I) >>= fun r => match r with | none => pure (.done .next) | some v => CONT v))
    (H : Fm g env (fun b => X b ∨ b = I)) (hIX : ¬ X I) (hIO : ¬ Own env I) (hDX : X D) (hZX : ∀ b, Z b → X b)
    (hstep : ∀ x ∈ xs, ∀ (s : Shared) (v : Value) (outs : List AV), outs.length + (gf x).length ≤ 100000 → St g env (fun b => X b ∨ b = I) σ s.heap → Rel (fun b => X b ∨ b = I) s.heap (enc x) v → (∃ o, s.heap.get? I = some o ∧ OkIter o) →
      Acc (fun b => X b ∨ b = I) s.heap D outs → wpAny (model prog w) A (CONT v) (fun fin s' => fin = .again (.compLoop (.ListComp elt gens scope pos) d (.ref I) (.ref D) env) ∧ KeepsX Z s s' ∧ St g env (fun b => X b ∨ b = I) σ s'.heap ∧ Acc (fun b => X b ∨ b = I) s'.heap D (outs ++ gf x)) F0 s)
    (hsz : outs₀.length + (xs.flatMap gf).length ≤ 100000)
    (hit : IterAt prog w A (fun b => X b ∨ b = I) s.heap I (xs.map enc) 0) (S : St g env (fun b => X b ∨ b = I) σ s.heap) (acc : Acc (fun b => X b ∨ b = I) s.heap D outs₀) :
    codeAny (model prog w) A (.compLoop (.ListComp elt gens scope pos) d (.ref I) (.ref D) env)
      (fun r s' => r = .ok .next ∧ KeepsX (fun b => Z b ∨ b = I) s s' ∧ St g env X σ s'.heap ∧ Acc X s'.heap D (outs₀ ++ xs.flatMap gf)) s := by
  refine codeAny_loop rfl (fun n s' => ∃ k, n = xs.length - k ∧ k ≤ xs.length ∧ KeepsX (fun b => Z b ∨ b = I) s s' ∧ St g env (fun b => X b ∨ b = I) σ s'.heap ∧ IterAt prog w A (fun b => X b ∨ b = I) s'.heap I (xs.map enc) k ∧
      Acc (fun b => X b ∨ b = I) s'.heap D (outs₀ ++ (xs.take k).flatMap gf)) (fun n s₁ hI => ?_) xs.length ⟨0, rfl, Nat.zero_le _, .refl _ _, S, hit, by simpa using acc⟩
  obtain ⟨k, rfl, hk, kk, S₁, it₁, acc₁⟩ := hI
  show wpAny _ A ((compTurn (.ListComp elt gens scope pos) d (.ref I) (.ref D) env).onRaise (fun x => do noteFrame x env; theTreesLotGoes x)) _ _ s₁
  refine wpAny_noted ?_
  rw [hturn]
  have hDI : D ≠ I := fun e => hIX (e ▸ hDX)
  refine wpAny_bind (wpAny_standAt (wpAny_bind (iter_next it₁ (.inr rfl) (by simpa using hk) (fun a v s₂ ha k₂ r₂ it₂ => ?_) fun s₂ he k₂ => ?_)))
  · rw [List.getElem?_map] at ha
    obtain ⟨x, hx, rfl⟩ := Option.map_eq_some_iff.mp ha
    have hlt : k < xs.length := (List.getElem?_eq_some_iff.mp hx).1
    have S₂ : St g env (fun b => X b ∨ b = I) σ s₂.heap := S₁.kx H k₂ fun b hb => ⟨.inr hb, hb ▸ hIO, let ⟨o, ho, _⟩ := it₂.ok; ⟨o, hb ▸ ho⟩⟩
    have acc₂ : Acc (fun b => X b ∨ b = I) s₂.heap D (outs₀ ++ (xs.take k).flatMap gf) := acc₁.move (k₂.kp.mono fun b hb => .inr hb).move fun o e => k₂.kp _ o hDI e
    have tk : (xs.take (k + 1)).flatMap gf = (xs.take k).flatMap gf ++ gf x := by rw [List.take_add_one, hx]; simp
    refine wpAny_mono (hstep x (List.mem_of_getElem? hx) s₂ v _ ?_ S₂ r₂ it₂.ok acc₂) (fun fin s₃ ⟨e, k₃, S₃, acc₃⟩ => ?_) fun _ _ e => e.elim
    · have h1 : ((xs.take (k + 1)).flatMap gf).length ≤ (xs.flatMap gf).length := by
        conv => rhs; rw [← List.take_append_drop (k + 1) xs, List.flatMap_append, List.length_append]
        omega
      rw [tk, List.length_append] at h1
      rw [List.length_append]; omega
    · subst e
      refine ⟨rfl, xs.length - (k + 1), by omega, k + 1, rfl, hlt, (kk.trans (k₂.mono fun b hb => .inr hb)).trans (k₃.mono fun b hb => .inl hb), S₃, ?_, ?_⟩
      · exact it₂.move (k₃.kp.mono fun b hb => .inl (hZX b hb)).move fun o e => k₃.kp _ o (fun q => hIX (hZX _ q)) e
      · rw [tk, ← List.append_assoc]; exact acc₃
  · have e : k = xs.length := by simpa using he.symm
    subst e
    rw [List.take_length] at acc₁
    have M : Move (fun b => X b ∨ b = I) s₁.heap X s₂.heap := fun b o hb ho => ⟨fun q => hb (.inl q), k₂.kp b o (fun q => hb (.inr q)) ho⟩
    refine wpAny_pure ⟨rfl, kk.trans (k₂.mono fun b hb => .inr hb), S₁.move M (fun b o ho => k₂.kp b o (fun q => ?_) (S₁.kg b o ho)) (fun b o hb ho => k₂.kp b o (fun q => hIO (q ▸ hb)) ho) (fun b hb => ?_), acc₁.move M fun o ho => k₂.kp _ o hDI ho⟩
    · have := H.xg b (.inr q); rw [ho] at this; cases this
    · obtain ⟨o, ho⟩ := S₁.lv b (.inl hb)
      exact ⟨o, k₂.kp b o (fun q => hIX (q ▸ hb)) ho⟩
end
end Mine
end

section
open PySem PySem.W PyProof.Rows
set_option Elab.async false
set_option maxRecDepth 100000
set_option linter.unusedVariables false
namespace Mine

/- the cells that a comprehension takes over -/
noncomputable def clOf : List (Str × NameKind) → List (Str × Addr) → List (Str × Addr) → List (Str × Addr)
  | [], _, acc => acc
  | (n, k) :: r, ec, acc => if k == .free then (match ec.lookup n with | some c => clOf r ec ((n, c) :: acc) | none => clOf r ec acc) else clOf r ec acc
noncomputable def closOk (scope : Scope) (env : Env) : Bool := scope.names.all fun x => !(x.2 == .free) || ((env.cells.lookup x.1).isSome && (env.kindOf x.1 == some .cell || env.kindOf x.1 == some .free))
noncomputable def cellsC (scope : Scope) (env : Env) (C : Addr) : List (Str × Addr) := cellsFrom (C + 1) scope.names (clOf scope.names env.cells [])
noncomputable def envC (scope : Scope) (env : Env) (C : Addr) : Env :=
  { scope := relabel scope env, locals := C, globals := env.globals, cells := cellsC scope env C, qual := env.qual, func := none, code := env.code, frame := env.frame, builtins := env.builtins }
noncomputable def OwnC (scope : Scope) (C b : Addr) : Prop := b = C ∨ ∃ n, (cellsFrom (C + 1) scope.names []).lookup n = some b

theorem clOf_lookup : ∀ (names : List (Str × NameKind)) (ec acc : List (Str × Addr)) (n : Str) (c : Addr), (clOf names ec acc).lookup n = some c → acc.lookup n = some c ∨ (ec.lookup n = some c ∧ (n, NameKind.free) ∈ names)
  | [], _, _, _, _, h => .inl h
  | (m, k) :: r, ec, acc, n, c, h => by
    unfold clOf at h
    split at h
    · rename_i hk
      have hk : k = .free := by simpa using hk
      cases hm : ec.lookup m with
      | none =>
        rw [hm] at h
        exact (clOf_lookup r ec acc n c h).imp id fun q => ⟨q.1, List.mem_cons_of_mem _ q.2⟩
      | some c' =>
        rw [hm] at h
        rcases clOf_lookup r ec _ n c h with q | q
        · rw [List.lookup_cons] at q
          by_cases e : n = m
          · subst e; simp at q; subst q; subst hk; exact .inr ⟨hm, List.mem_cons_self⟩
          · have e' : (n == m) = false := by simpa using e
            rw [e'] at q; exact .inl q
        · exact .inr ⟨q.1, List.mem_cons_of_mem _ q.2⟩
    · exact (clOf_lookup r ec acc n c h).imp id fun q => ⟨q.1, List.mem_cons_of_mem _ q.2⟩

theorem cellsFrom_append : ∀ (names : List (Str × NameKind)) (lo : Nat) (acc : List (Str × Addr)), cellsFrom lo names acc = cellsFrom lo names [] ++ acc
  | [], _, _ => rfl
  | (n, k) :: r, lo, acc => by
    unfold cellsFrom
    split
    · rw [cellsFrom_append r (lo + 1) ((n, lo) :: acc), cellsFrom_append r (lo + 1) [(n, lo)], List.append_assoc]; rfl
    · exact cellsFrom_append r lo acc
theorem cellsFrom_mem : ∀ (names : List (Str × NameKind)) (lo : Nat) (acc : List (Str × Addr)) (x : Str × Addr), x ∈ cellsFrom lo names acc → x ∈ acc ∨ (x.1, NameKind.cell) ∈ names
  | [], _, _, _, h => .inl h
  | (n, k) :: r, lo, acc, x, h => by
    unfold cellsFrom at h
    split at h
    · rename_i hk
      have hk : k = .cell := by simpa using hk
      rcases cellsFrom_mem r (lo + 1) _ x h with q | q
      · rcases List.mem_cons.mp q with e | q
        · right; subst e; subst hk; exact List.mem_cons_self
        · exact .inl q
      · exact .inr (List.mem_cons_of_mem _ q)
    · exact (cellsFrom_mem r lo acc x h).imp id (List.mem_cons_of_mem _)
theorem lookup_append {α : Type} : ∀ (l l' : List (Str × α)) (n : Str), (l ++ l').lookup n = (l.lookup n).or (l'.lookup n)
  | [], _, _ => rfl
  | (m, x) :: l, l', n => by
    rw [List.cons_append, List.lookup_cons, List.lookup_cons]
    cases n == m with
    | true => rfl
    | false => exact lookup_append l l' n

section
variable {prog : Program} {w : World} {g : Heap} {mg mb : Str → Option Value} {A : Around} {env : Env} {X X' : Addr → Prop} {σ σ' : List (Str × AV)} {E : Value → Shared → Prop}

theorem closureFor_ok {scope : Scope} (h : closOk scope env = true) : closureFor scope env = pure (clOf scope.names env.cells []) := by
  have hall : ∀ x ∈ scope.names, x.2 = .free → ∃ c, env.cells.lookup x.1 = some c := fun x hx e => by
    have := List.all_eq_true.mp h x hx
    rw [e] at this
    cases hq : env.cells.lookup x.1 with
    | some c => exact ⟨c, rfl⟩
    | none => rw [hq] at this; cases this
  have loop : ∀ (names : List (Str × NameKind)) (acc : List (Str × Addr)), (∀ x ∈ names, x.2 = .free → ∃ c, env.cells.lookup x.1 = some c) →
      (forIn names acc fun (x : Str × NameKind) (cs : List (Str × Addr)) => (if (x.2 == NameKind.free) = true then (do let c ← cellOf env x.1; pure (ForInStep.yield ((x.1, c) :: cs))) else pure (ForInStep.yield cs) : Sem _)) = pure (clOf names env.cells acc) := by
    intro names
    induction names with
    | nil => intro acc _; rfl
    | cons x r ih =>
      intro acc hx
      obtain ⟨n, k⟩ := x
      rw [List.forIn_cons]
      unfold clOf
      by_cases hk : (k == NameKind.free) = true
      · obtain ⟨c, hc⟩ := hx (n, k) List.mem_cons_self (by simpa using hk)
        have hco : cellOf env n = pure c := by unfold cellOf; rw [hc]
        simp only [hk, if_true, hco]
        have hc' : env.cells.lookup n = some c := hc
        rw [hc']
        exact ih ((n, c) :: acc) fun y hy => hx y (List.mem_cons_of_mem _ hy)
      · simp only [hk, Bool.false_eq_true, if_false]
        exact ih acc fun y hy => hx y (List.mem_cons_of_mem _ hy)
  unfold closureFor
  show (forIn scope.names ([] : List (Str × Addr)) _ >>= _) = _
  have := loop scope.names [] hall
  first
    | (rw [show (forIn scope.names ([] : List (Str × Addr)) fun (x : Str × NameKind) (r : List (Str × Addr)) => _) = _ from this]; rfl)
    | (refine Eq.trans (congrArg (· >>= _) this) ?_; rfl)

/-- the frame of a comprehension is laid -/
theorem comp_env {scope : Scope} {cl : List (Str × Addr)} {s : Shared} {Q : Env → Shared → Prop} (globals : Addr) (qual : Str)
    (h : Q { scope := scope, locals := s.heap.objs.size, globals := globals, cells := cellsFrom (s.heap.objs.size + 1) scope.names cl, qual := qual, func := none, code := env.code, frame := env.frame, builtins := env.builtins }
      { s with heap := pushCells (s.heap.push { cls := .type "dict", data := .dict #[] }) scope.names }) :
    wpAny (model prog w) A (newFunctionEnv scope globals cl [] qual none .none (some env)) Q E s := by
  simp only [newFunctionEnv, Option.isSome_some, if_true]
  refine wpAny_bind (wpAny_alloc ?_)
  refine wpAny_bind (wpAny_layCells _ (fun name kind cells => by cases hkc : kind == NameKind.cell <;> simp [hkc]) _ _ _ _ ?_)
  rw [show ({ s with heap := s.heap.push { cls := .type "dict", data := .dict #[] } } : Shared).heap.objs.size = s.heap.objs.size + 1 from Heap.size_push ..]
  refine wpAny_bind ?_
  rw [List.forIn_nil]
  exact wpAny_pure (wpAny_pure h)

theorem free_kind {scope : Scope} (h : closOk scope env = true) {n : Str} {c : Addr} (hc : (clOf scope.names env.cells []).lookup n = some c) :
    env.cells.lookup n = some c ∧ (env.kindOf n = some .cell ∨ env.kindOf n = some .free) := by
  rcases clOf_lookup _ _ _ _ _ hc with q | ⟨q, hm⟩
  · simp at q
  · refine ⟨q, ?_⟩
    have := List.all_eq_true.mp h _ hm
    have e : (NameKind.free == NameKind.free) = true := rfl
    rw [e] at this
    simp only [Bool.not_true, Bool.false_or, Bool.and_eq_true, Bool.or_eq_true, beq_iff_eq] at this
    exact this.2

theorem cells_split {scope : Scope} {C : Addr} {n : Str} {c : Addr} (h : (cellsC scope env C).lookup n = some c) :
    (cellsFrom (C + 1) scope.names []).lookup n = some c ∨ (clOf scope.names env.cells []).lookup n = some c := by
  unfold cellsC at h
  rw [cellsFrom_append, lookup_append] at h
  cases q : (cellsFrom (C + 1) scope.names []).lookup n with
  | some c' => rw [q] at h; left; simpa using h
  | none => rw [q] at h; right; simpa using h

theorem lookup_filter (σ : List (Str × AV)) (p : Str → Bool) (n : Str) : (σ.filter fun y => p y.1).lookup n = if p n then σ.lookup n else none := by
  induction σ with
  | nil => simp
  | cons x r ih =>
    obtain ⟨m, v⟩ := x
    rw [List.filter_cons]
    by_cases e : n = m
    · subst e
      cases hp : p n with
      | true => simp [hp]
      | false => simp only [hp, Bool.false_eq_true, if_false] at ih ⊢; exact ih
    · have e' : (n == m) = false := by simpa using e
      cases hp : p m with
      | true => simp only [if_true, List.lookup_cons, e']; exact ih
      | false => simp only [Bool.false_eq_true, if_false, List.lookup_cons, e']; exact ih

theorem lookup_of_mem {α : Type} : ∀ {l : List (Str × α)} {x : Str × α}, (l.map (·.1)).Nodup → x ∈ l → l.lookup x.1 = some x.2
  | [], _, _, h => nomatch h
  | (m, v) :: l, (n, u), hn, h => by
    rw [List.map_cons, List.nodup_cons] at hn
    rw [List.lookup_cons]
    rcases List.mem_cons.mp h with e | h2
    · cases e; simp
    · have e' : (n == m) = false := by
        simp only [beq_eq_false_iff_ne, ne_eq]
        rintro rfl
        exact hn.1 (List.mem_map.mpr ⟨(n, u), h2, rfl⟩)
      simp only [e']
      exact lookup_of_mem hn.2 h2

theorem relabel_free {env : Env} : ∀ {names : List (Str × NameKind)} {x : Str}, names.lookup x = some .free →
    (names.map fun (n, k) => if (k == NameKind.free && env.scope.kind == .function && env.kindOf n == some .cell) then (n, NameKind.cell) else (n, k)).lookup x ≠ some .local
  | [], _, h => by simp at h
  | (n, k) :: r, x, h => by
    have ih := @relabel_free env r x
    show List.lookup x ((if (k == NameKind.free && env.scope.kind == .function && env.kindOf n == some .cell) = true then (n, NameKind.cell) else (n, k)) :: _) ≠ _
    cases hx : x == n with
    | true =>
      simp only [List.lookup_cons, hx] at h
      cases h
      split <;> simp [List.lookup_cons, hx]
    | false =>
      simp only [List.lookup_cons, hx] at h
      split <;> simp only [List.lookup_cons, hx] <;> exact ih h

/-- the store of a comprehension at its start -/
noncomputable def inner (scope : Scope) (σ : List (Str × AV)) : List (Str × AV) := σ.filter fun y => scope.names.lookup y.1 == some .free

structure InC (g : Heap) (scope : Scope) (env : Env) (C I D : Addr) (X : Addr → Prop) : Prop where
  H : Fm g (envC scope env C) (fun b => X b ∨ b = I)
  ix : ¬ X I
  io : ¬ Own (envC scope env C) I
  dx : X D
  ox : ∀ b, OwnC scope C b → X b
  dno : ¬ Own (envC scope env C) D

theorem comp_run {e : Expr} {scope : Scope} {pos : Pos} {g0 : Comprehension} {gs : List Comprehension} {use : Option (Value → Sem Unit)} {Q : Value → Shared → Prop} {src : AV} {l out : List AV} {s : Shared}
    (H : Fm g env X) (S : St g env X σ s.heap) (hh : A.handled = none) (hcl : clausesOf e = g0 :: gs) (hs : ∀ x, foldedSetIterable g0.iter env x = pure x) (hclos : closOk scope env = true) (hkind : scope.kind = .function)
    (hnd : (scope.names.map (·.1)).Nodup) (hit : Ev prog w g A env X σ g0.iter src) (hsrc : Iters src l)
    (hloop : ∀ (C I D : Addr) (X' : Addr → Prop) (s : Shared), InC g scope env C I D X' → IterAt prog w A (fun b => X' b ∨ b = I) s.heap I l 0 → St g (envC scope env C) (fun b => X' b ∨ b = I) (inner scope σ) s.heap → Acc (fun b => X' b ∨ b = I) s.heap D [] →
      codeAny (model prog w) A (.compStart e 0 (.ref I) (.ref D) (envC scope env C)) (fun r s' => r = .ok .next ∧ KeepsX (fun b => (b = D ∨ OwnC scope C b) ∨ b = I) s s' ∧ St g (envC scope env C) X' (inner scope σ) s'.heap ∧ Acc X' s'.heap D out) s)
    (hfin : ∀ (C D : Addr) (s' : Shared), Keeps s s' → s.heap.get? C = none → (∃ m, s'.heap.Ns C m) → C ≠ D → Rel (fun b => X b ∨ b = C) s'.heap (.list out) (.ref D) → compPost (model prog w) A F0 use Q (.ref D) C (.ok .next) s') :
    wpAny (model prog w) A (comprehension e scope env pos (newList []) false (eval g0.iter env) use) Q F0 s := by
  refine wpAny_comprehension_free (use := use) hcl hs (closureFor_ok hclos) hkind (fun x hx hl => by rw [lookup_of_mem hnd hx, hl]) (wpAny_mono (hit s S) (fun xv s₁ ⟨k₁, r₁⟩ => wpAny_mono (iter_src hh hsrc r₁) (fun it s₂ ⟨k₂, e₂, it₂, oI⟩ => ?_) fun _ _ e => e) fun _ _ e => e)
  subst e₂
  have S₂ := (S.ks k₁).ks k₂
  generalize hI : s₁.heap.objs.size = I at it₂ oI ⊢
  have k02 : Keeps s s₂ := keeps_trans k₁ k₂
  have up : ∀ {a b : Heap} {x : Addr}, Kp a b → b.get? x = none → a.get? x = none := fun k e => none_of k e
  have frI : s.heap.get? I = none := up (keeps_kp k₁) (Heap.get?_none_of_le (Nat.le_of_eq hI))
  have hIlt : I < s₂.heap.objs.size := let ⟨o, ho⟩ := oI; Heap.lt_size ho
  refine wpAny_newObj_type ?_
  refine comp_env env.globals env.qual ?_
  dsimp only
  generalize hH3 : s₂.heap.push { cls := .type "list", dict := none, data := .seq ([] : List Value).toArray } = H3
  generalize hD : s₂.heap.objs.size = D at hIlt
  generalize hC : H3.objs.size = C
  have eC : C = D + 1 := by rw [← hC, ← hH3, Heap.size_push, hD]
  generalize hH4 : pushCells (H3.push { cls := .type "dict", dict := none, data := .dict #[] }) scope.names = H4
  have k23 : Kp s₂.heap H3 := fun b o e => hH3 ▸ Heap.get?_push_of_some _ e
  have k34 : Kp H3 H4 := fun b o e => hH4 ▸ pushCells_keeps _ _ b o (Heap.get?_push_of_some _ e)
  have k24 := k23.trans k34
  have k04 : Kp s.heap H4 := (keeps_kp k02).trans k24
  have ok := cellsFrom_ok scope.names (H3.push { cls := .type "dict", data := .dict #[] }) (C + 1) [] ⟨fun _ _ hm => (nomatch hm), List.Pairwise.nil⟩ (by rw [Heap.size_push, hC]; exact Nat.le_refl _)
  rw [Heap.size_push, hC, hH4] at ok
  have nC : H4.Ns C (fun _ => none) := by
    have := (Heap.Ns.new H3 (.type "dict")).keeps (h' := H4) (fun b o e => hH4 ▸ pushCells_keeps _ _ b o e)
    rwa [hC] at this
  have fr2 : ∀ b, D ≤ b → s₂.heap.get? b = none := fun b hb => Heap.get?_none_of_le (hD ▸ hb)
  have ownLe : ∀ b, OwnC scope C b → D < b := fun b hb => by
    rcases hb with e | ⟨n, e⟩
    · rw [e, eC]; exact Nat.lt_succ_self D
    · have := (ok.empty n b (mem_of_lookup e)).2; omega
  have fresh2 : ∀ b, (b = D ∨ OwnC scope C b) → s₂.heap.get? b = none := fun b hb => fr2 b (hb.elim (fun e => Nat.le_of_eq e.symm) fun q => Nat.le_of_lt (ownLe b q))
  have fresh0 : ∀ b, ((b = D ∨ OwnC scope C b) ∨ b = I) → s.heap.get? b = none := fun b hb => hb.elim (fun q => up (keeps_kp k02) (fresh2 b q)) fun e => e ▸ frI
  have frC : s.heap.get? C = none := fresh0 C (.inl (.inr (.inl rfl)))
  have inI : InC g scope env C I D (fun b => X b ∨ (b = D ∨ OwnC scope C b)) := by
    have liveX : ∀ {b}, X b → s.heap.get? b = none → False := fun hb e => by obtain ⟨o, ho⟩ := S.lv _ hb; rw [e] at ho; cases ho
    have ownS : ∀ {n c}, (cellsC scope env C).lookup n = some c → (C + 1 ≤ c ∧ (n, c) ∈ cellsFrom (C + 1) scope.names []) ∨ (env.cells.lookup n = some c ∧ X c) := fun {n c} hc => by
      rcases cells_split hc with q | q
      · exact .inl ⟨(ok.empty n c (mem_of_lookup q)).2, mem_of_lookup q⟩
      · have := (free_kind hclos q).1
        exact .inr ⟨this, (H.xc n c this).1⟩
    refine ⟨⟨hkind, H.gl, H.bl, .inl (.inr (.inr (.inl rfl))), fun n c hc => ?_, fun n n' c hc hc' => ?_, fun b hb => ?_⟩, ?_, ?_, .inr (.inl rfl), fun b hb => .inr (.inr hb), ?_⟩
    · rcases cells_split hc with q | q
      · refine ⟨.inl (.inr (.inr (.inr ⟨n, q⟩))), ?_⟩
        have := (ok.empty n c (mem_of_lookup q)).2
        exact Nat.ne_of_gt this
      · have := (H.xc n c (free_kind hclos q).1).1
        refine ⟨.inl (.inl this), ?_⟩
        show c ≠ C
        rintro rfl
        exact liveX this frC
    · rcases ownS hc with ⟨q1, q2⟩ | ⟨q1, q2⟩ <;> rcases ownS hc' with ⟨p1, p2⟩ | ⟨p1, p2⟩
      · exact name_of_addr ok.apart q2 p2
      · exact (liveX p2 (fresh0 c (.inl (.inr (.inr (by
          rcases cells_split hc with z | z
          · exact ⟨n, z⟩
          · exact (liveX ((H.xc n c (free_kind hclos z).1).1) (up (keeps_kp k02) (fr2 c (by omega)))).elim)))))).elim
      · exact (liveX q2 (up (keeps_kp k02) (fr2 c (by omega)))).elim
      · exact H.inj n n' c q1 p1
    · rcases hb with (hb | hb) | hb
      · exact H.xg b hb
      · exact none_of S.kg (fresh0 b (.inl hb))
      · exact none_of S.kg (fresh0 b (.inr hb))
    · rintro (hb | hb)
      · exact liveX hb frI
      · have := hb.elim (fun e => Nat.le_of_eq e.symm) fun q => Nat.le_of_lt (ownLe I q)
        omega
    · rintro (e | ⟨n, hb⟩)
      · have e : I = C := e
        omega
      · rcases ownS hb with ⟨q1, q2⟩ | ⟨q1, q2⟩
        · omega
        · exact liveX q2 frI
    · rintro (e | ⟨n, hb⟩)
      · have e : D = C := e
        omega
      · rcases ownS hb with ⟨q1, q2⟩ | ⟨q1, q2⟩
        · omega
        · exact liveX q2 (fresh0 D (.inl (.inl rfl)))
  have M0 : Move X s.heap (fun b => (X b ∨ (b = D ∨ OwnC scope C b)) ∨ b = I) H4 := fun b o hb e => by
    refine ⟨?_, k04 b o e⟩
    rintro ((q | q) | q)
    · exact hb q
    · have := fresh0 b (.inl q); rw [e] at this; cases this
    · have := fresh0 b (.inr q); rw [e] at this; cases this
  have M2 : Move (fun b => X b ∨ b = I) s₂.heap (fun b => (X b ∨ (b = D ∨ OwnC scope C b)) ∨ b = I) H4 := fun b o hb e => by
    refine ⟨?_, k24 b o e⟩
    rintro ((q | q) | q)
    · exact hb (.inl q)
    · have := fresh2 b q; rw [e] at this; cases this
    · exact hb (.inr q)
  have oD : H3.get? D = some { cls := .type "list", dict := none, data := .seq ([] : List Value).toArray } := by
    rw [← hH3, ← hD]; exact Heap.get?_push_size _ rfl
  have S4 : St g (envC scope env C) (fun b => (X b ∨ (b = D ∨ OwnC scope C b)) ∨ b = I) (inner scope σ) H4 := by
    have inn : ∀ {n av}, (inner scope σ).lookup n = some av → scope.names.lookup n = some .free ∧ σ.lookup n = some av := fun {n av} hx => by
      unfold inner at hx
      rw [lookup_filter σ (fun y => scope.names.lookup y == some .free)] at hx
      split at hx
      · rename_i q; exact ⟨by simpa using q, hx⟩
      · cases hx
    refine ⟨S.kg.trans k04, ⟨_, nC, fun x av hx hk => absurd hk (relabel_free (inn hx).1)⟩, fun n c hc => ?_, fun b hb => ?_⟩
    · rcases cells_split hc with q | q
      · refine ⟨none, (ok.empty n c (mem_of_lookup q)).1, fun av hx _ => ?_⟩
        rcases cellsFrom_mem _ _ _ _ (mem_of_lookup q) with z | z
        · cases z
        · have := lookup_of_mem hnd z
          rw [(inn hx).1] at this
          cases this
      · obtain ⟨q1, q2⟩ := free_kind hclos q
        obtain ⟨u, hu, hr⟩ := S.cl n c q1
        refine ⟨u, hu.keeps k04, fun av hx _ => ?_⟩
        obtain ⟨v, hv, r⟩ := hr av (inn hx).2 q2
        exact ⟨v, hv, r.move M0⟩
    · rcases hb with (hb | hb | hb | ⟨n, hb⟩) | hb
      · obtain ⟨o, ho⟩ := S.lv b hb; exact ⟨o, k04 b o ho⟩
      · exact ⟨_, hb ▸ k34 _ _ oD⟩
      · obtain ⟨o, _, _, ho, _⟩ := nC; exact ⟨o, hb ▸ ho⟩
      · obtain ⟨o, ho, _⟩ := (ok.empty n b (mem_of_lookup hb)).1; exact ⟨o, ho⟩
      · obtain ⟨o, ho⟩ := oI; exact ⟨o, hb ▸ k24 _ _ ho⟩
  have B := hloop C I D _ { s₂ with heap := H4 } inI (it₂.move M2 fun o e => k24 _ o e) S4 ⟨[], ⟨0, k34 _ _ oD⟩, by simp only [RelL]⟩
  refine codeAny_mono B fun r s₅ ⟨er, kz, S₅, acc₅⟩ => ?_
  subst er
  have k05 : Keeps s s₅ := by
    obtain ⟨h₅, tk₅, rfl, kz⟩ := kz
    obtain ⟨h₂, tk₂, rfl, kx⟩ := k02
    exact ⟨h₅, tk₅, rfl, fun b o e => kz b o (fun q => by have := fresh0 b q; rw [e] at this; cases this) (k04 b o e)⟩
  refine hfin C D s₅ k05 frC (let ⟨m, hm, _⟩ := S₅.ns; ⟨m, hm⟩) (by rw [eC]; exact Nat.succ_ne_self D) ?_
  obtain ⟨vs, ⟨n, hv⟩, rv⟩ := acc₅
  simp only [Rel]
  refine ⟨D, vs, n, rfl, ?_, hv, rv.move (Move.less fun b hb => hb.imp id fun e => .inr (.inl e))⟩
  rintro (q | q)
  · obtain ⟨o, ho⟩ := S.lv D q; rw [fresh0 D (.inl (.inl rfl))] at ho; cases ho
  · exact absurd (q.trans eC) (Nat.ne_of_lt (Nat.lt_succ_self D))
end
end Mine
end

section
open PySem PySem.W PyProof.Rows
set_option Elab.async false
set_option maxRecDepth 100000
set_option linter.unusedVariables false
namespace Mine

noncomputable def cont1 (elt : Expr) (gens : List Comprehension) (scope : Scope) (pos : Pos) (d : Nat) (tgt : Expr) (ifs : List Expr) (it acc : Value) (env : Env) (v : Value) : Sem Fin := do
  letOwnedTupleGo tgt it v
  assign tgt env v
  let mut ok := true
  for c in ifs do
    if ok then ok ← isTrue c env (eval c env)
  if ok then
    (do let _ ← call (.builtin "list.append") [acc, ← eval elt env])
  again (.compLoop (.ListComp elt gens scope pos) d it acc env)
noncomputable def cont2 (elt : Expr) (gens : List Comprehension) (scope : Scope) (pos : Pos) (tgt : Expr) (ifs : List Expr) (iter2 : Expr) (it acc : Value) (env : Env) (v : Value) : Sem Fin := do
  letOwnedTupleGo tgt it v
  assign tgt env v
  let mut ok := true
  for c in ifs do
    if ok then ok ← isTrue c env (eval c env)
  if ok then
    let x ← eval iter2 env
    standAt iter2.pos
    let x ← foldedSetIterable iter2 env x
    let _ ← runOwn (.compStart (.ListComp elt gens scope pos) 1 (← holding [x] (pyIter x)) acc env) env
  again (.compLoop (.ListComp elt gens scope pos) 0 it acc env)

theorem turn_one (elt tgt iter : Expr) (ifs : List Expr) (scope : Scope) (pos : Pos) (it acc : Value) (env : Env) :
    compTurn (.ListComp elt [⟨tgt, iter, ifs, 0⟩] scope pos) 0 it acc env = (standAt iter.pos >>= fun _ => pyNext it >>= fun r => match r with
      | none => pure (.done .next) | some v => cont1 elt [⟨tgt, iter, ifs, 0⟩] scope pos 0 tgt ifs it acc env v) := by rfl
theorem turn_in (elt tgt iter tgt2 iter2 : Expr) (ifs ifs2 : List Expr) (scope : Scope) (pos : Pos) (it acc : Value) (env : Env) :
    compTurn (.ListComp elt [⟨tgt, iter, ifs, 0⟩, ⟨tgt2, iter2, ifs2, 0⟩] scope pos) 1 it acc env = (standAt iter2.pos >>= fun _ => pyNext it >>= fun r => match r with
      | none => pure (.done .next) | some v => cont1 elt [⟨tgt, iter, ifs, 0⟩, ⟨tgt2, iter2, ifs2, 0⟩] scope pos 1 tgt2 ifs2 it acc env v) := by rfl
theorem turn_out (elt tgt iter tgt2 iter2 : Expr) (ifs ifs2 : List Expr) (scope : Scope) (pos : Pos) (it acc : Value) (env : Env) :
    compTurn (.ListComp elt [⟨tgt, iter, ifs, 0⟩, ⟨tgt2, iter2, ifs2, 0⟩] scope pos) 0 it acc env = (standAt iter.pos >>= fun _ => pyNext it >>= fun r => match r with
      | none => pure (.done .next) | some v => cont2 elt [⟨tgt, iter, ifs, 0⟩, ⟨tgt2, iter2, ifs2, 0⟩] scope pos tgt ifs iter2 it acc env v) := by rfl

section
variable {prog : Program} {w : World} {g : Heap} {mg mb : Str → Option Value} {A : Around} {env : Env} {X X' : Addr → Prop} {σ σ' : List (Str × AV)} {E : Value → Shared → Prop} {R : Result → Shared → Prop}

theorem iter_self {s : Shared} {I l i} (x : IterAt prog w A X s.heap I l i) {Q : Value → Shared → Prop} (h : Q (.ref I) s) : wpAny (model prog w) A (pyIter (.ref I)) Q E s := by
  obtain ⟨fp, P, Stw, W, hf, st, hr, ho⟩ := x
  exact W.self _ _ _ _ st h

theorem comp_start {elt tgt iter : Expr} {ifs : List Expr} {gens : List Comprehension} {scope : Scope} {pos : Pos} {d : Nat} {I l i} {acc : Value} {s : Shared} (hg : gens[d]? = some ⟨tgt, iter, ifs, 0⟩)
    (x : IterAt prog w A X s.heap I l i) (h : codeAny (model prog w) A (.compLoop (.ListComp elt gens scope pos) d (.ref I) acc env) R s) :
    codeAny (model prog w) A (.compStart (.ListComp elt gens scope pos) d (.ref I) acc env) R s := by
  refine codeAny_of_tree ?_
  show wpAny _ _ ((compStart (.ListComp elt gens scope pos) d (.ref I) acc env).onRaise (fun x => do noteFrame x env; standAt theWindowsPlace)) _ _ s
  refine wpAny_notedAt ?_
  have hc : (clausesOf (.ListComp elt gens scope pos))[d]? = some ⟨tgt, iter, ifs, 0⟩ := hg
  unfold compStart
  rw [hc]
  show wpAny _ _ (ask >>= _) _ _ s
  refine wpAny_bind (wpAny_askSetting (wpAny_ite ?_))
  split
  · first
      | exact wpAny_bind (wpAny_pure (wpAny_pure (And.intro rfl h)))
      | exact wpAny_pure (And.intro rfl h)
  · first
      | exact wpAny_bind (wpAny_rule (wpAny_bind (wpAny_standAt (wpAny_bind (iter_self x (wpAny_pure (And.intro rfl h)))))))
      | (refine wpAny_bind (wpAny_rule ?_); show wpAny _ _ (standAt iter.pos >>= _) _ _ s; exact wpAny_bind (wpAny_standAt (wpAny_bind (iter_self x (wpAny_pure (And.intro rfl h))))))

/-- a turn that gives out an item -/
theorem step1 {elt : Expr} {gens : List Comprehension} {scope : Scope} {pos : Pos} {d : Nat} {tgt : Expr} {ifs : List Expr} {I D : Addr} {Z : Addr → Prop} {a r : AV} {b : Bool} {σ₁ : List (Str × AV)} {s : Shared} {v : Value} {outs : List AV}
    (H : Fm g env X) (hDX : X D) (hDO : ¬ Own env D) (hZX : ∀ b, Z b → X b) (hZD : Z D) (hDslot : ∀ b, Z b → b = D ∨ Own env b) (hZn : ∀ b, Z b → b ≠ D → True)
    (hasg : Asg prog w g A env X (fun b => Z b ∧ b ≠ D) tgt a σ σ₁) (hsub : ∀ y, σ.lookup y = none ∨ σ.lookup y = σ₁.lookup y)
    (ht : Tests prog w g A env X σ₁ ifs b) (he : b = true → Ev prog w g A env X σ₁ elt r)
    (hsz : outs.length ≤ 100000) (S : St g env X σ s.heap) (rv : Rel X s.heap a v) (ho : ∃ o, s.heap.get? I = some o ∧ OkIter o) (acc : Acc X s.heap D outs) :
    wpAny (model prog w) A (cont1 elt gens scope pos d tgt ifs (.ref I) (.ref D) env v) (fun fin s' => fin = .again (.compLoop (.ListComp elt gens scope pos) d (.ref I) (.ref D) env) ∧ KeepsX Z s s' ∧ St g env X σ s'.heap ∧ Acc X s'.heap D (outs ++ if b = true then [r] else [])) F0 s := by
  unfold cont1
  refine wpAny_bind (wpAny_mono (hasg s I v S rv ho) (fun _ s₁ h₁ => wpAny_bind (wpAny_mono h₁ (fun _ s₂ ⟨k₂, S₂⟩ => wpAny_bind (wpAny_mono (ht s₂ S₂) (fun ok s₃ ⟨k₃, e₃⟩ => ?_) fun _ _ e => e)) fun _ _ e => e)) fun _ _ e => e)
  subst e₃
  have S₃ := S₂.ks k₃
  have k03 : KeepsX (fun b => Z b ∧ b ≠ D) s s₃ := k₂.trans (keeps_x k₃)
  have acc₃ : Acc X s₃.heap D outs := acc.move (k03.kp.mono fun b hb => hZX b hb.1).move fun o e => k03.kp _ o (fun q => q.2 rfl) e
  cases ok with
  | false =>
    exact wpAny_pure ⟨rfl, k03.mono fun b hb => hb.1, S₃.sub hsub, by simpa using acc₃⟩
  | true =>
    refine wpAny_bind (wpAny_bind (wpAny_mono (he rfl s₃ S₃) (fun x s₄ ⟨k₄, r₄⟩ => wpAny_bind ?_) fun _ _ e => e.elim))
    have acc₄ : Acc X s₄.heap D outs := acc₃.move (keeps_kp k₄).move fun o e => keeps_kp k₄ _ o e
    refine acc_push hDX acc₄ r₄ hsz fun s₅ k₅ o₅ acc₅ => wpAny_pure (wpAny_pure ⟨rfl, ((k03.mono fun b hb => hb.1).trans (keeps_x k₄)).trans (k₅.mono fun b hb => hb ▸ hZD), ?_, by simpa using acc₅⟩)
    exact (((S₃.ks k₄).kx H k₅ fun b hb => ⟨hb ▸ hDX, hb ▸ hDO, hb ▸ o₅⟩).sub hsub)

theorem asg_mono {Z Z' : Addr → Prop} {tgt a} {σ₁ : List (Str × AV)} (h : Asg prog w g A env X Z tgt a σ σ₁) (hz : ∀ b, Z b → Z' b) : Asg prog w g A env X Z' tgt a σ σ₁ := fun s I v S r o =>
  wpAny_mono (h s I v S r o) (fun _ s₁ h₁ => wpAny_mono h₁ (fun _ s₂ ⟨k, S₂⟩ => ⟨k.mono hz, S₂⟩) fun _ _ e => e) fun _ _ e => e

/-- a turn that runs an inner loop -/
theorem step2 {β : Type} {elt tgt iter tgt2 iter2 : Expr} {ifs2 : List Expr} {scope : Scope} {pos : Pos} {I D : Addr} {Z : Addr → Prop} {a src2 : AV} {ys : List β} {enc2 f : β → AV} {pz : β → Bool} {σ₁ : List (Str × AV)} {bd2 : β → List (Str × AV)} {s : Shared} {v : Value} {outs : List AV}
    (H : Fm g env X) (hh : A.handled = none) (hDX : X D) (hDO : ¬ Own env D) (hZX : ∀ b, Z b → X b) (hZD : Z D) (hDslot : ∀ b, Z b → b = D ∨ Own env b)
    (hasg : Asg prog w g A env X (fun b => Z b ∧ b ≠ D) tgt a σ σ₁) (hsub : ∀ y, σ.lookup y = none ∨ σ.lookup y = σ₁.lookup y)
    (hs2 : ∀ x, foldedSetIterable iter2 env x = pure x) (hit2 : Ev prog w g A env X σ₁ iter2 src2) (hsrc2 : Iters src2 (ys.map enc2))
    (hin : ∀ X' : Addr → Prop, Fm g env X' → ∀ y ∈ ys, Asg prog w g A env X' (fun b => Z b ∧ b ≠ D) tgt2 (enc2 y) σ₁ (bd2 y) ∧ (∀ z, σ₁.lookup z = none ∨ σ₁.lookup z = (bd2 y).lookup z) ∧ Tests prog w g A env X' (bd2 y) ifs2 (pz y) ∧ (pz y = true → Ev prog w g A env X' (bd2 y) elt (f y)))
    (hsz : outs.length + (ys.flatMap fun y => if pz y = true then [f y] else []).length ≤ 100000) (S : St g env X σ s.heap) (rv : Rel X s.heap a v) (ho : ∃ o, s.heap.get? I = some o ∧ OkIter o) (acc : Acc X s.heap D outs) :
    wpAny (model prog w) A (cont2 elt [⟨tgt, iter, [], 0⟩, ⟨tgt2, iter2, ifs2, 0⟩] scope pos tgt [] iter2 (.ref I) (.ref D) env v)
      (fun fin s' => fin = .again (.compLoop (.ListComp elt [⟨tgt, iter, [], 0⟩, ⟨tgt2, iter2, ifs2, 0⟩] scope pos) 0 (.ref I) (.ref D) env) ∧ KeepsX Z s s' ∧ St g env X σ s'.heap ∧ Acc X s'.heap D (outs ++ ys.flatMap fun y => if pz y = true then [f y] else [])) F0 s := by
  unfold cont2
  refine wpAny_bind (wpAny_mono (hasg s I v S rv ho) (fun _ s₁ h₁ => wpAny_bind (wpAny_mono h₁ (fun _ s₂ ⟨k₂, S₂⟩ => wpAny_bind (wpAny_mono (tests_nil s₂ S₂) (fun ok s₃ ⟨k₃, e₃⟩ => ?_) fun _ _ e => e)) fun _ _ e => e)) fun _ _ e => e)
  subst e₃
  have S₃ := S₂.ks k₃
  have k03 : KeepsX (fun b => Z b ∧ b ≠ D) s s₃ := k₂.trans (keeps_x k₃)
  have acc₃ : Acc X s₃.heap D outs := acc.move (k03.kp.mono fun b hb => hZX b hb.1).move fun o e => k03.kp _ o (fun q => q.2 rfl) e
  refine wpAny_bind (wpAny_mono (hit2 s₃ S₃) (fun x s₄ ⟨k₄, r₄⟩ => wpAny_bind (wpAny_standAt (wpAny_bind (wpAny_of_eq (hs2 x) (wpAny_bind (wpAny_holding (wpAny_mono (iter_src hh hsrc2 r₄) (fun it s₅ ⟨k₅, e₅, it₅, o₅⟩ => wpAny_bind ?_) fun _ _ e => e.elim))))))) fun _ _ e => e.elim)
  subst e₅
  have S₄ := S₃.ks k₄
  have acc₄ : Acc X s₄.heap D outs := acc₃.move (keeps_kp k₄).move fun o e => keeps_kp k₄ _ o e
  generalize hI2 : s₄.heap.objs.size = I2 at it₅ o₅ ⊢
  have fr : s₄.heap.get? I2 = none := Heap.get?_none_of_le (Nat.le_of_eq hI2)
  have liveX : ¬ X I2 := fun hb => by obtain ⟨o, ho⟩ := S₄.lv _ hb; rw [fr] at ho; cases ho
  have hIO : ¬ Own env I2 := fun hb => liveX (own_x H hb)
  have M : Move X s₄.heap (fun b => X b ∨ b = I2) s₅.heap := fun b o hb e => ⟨fun q => q.elim hb fun q => (by rw [q, fr] at e; cases e), keeps_kp k₅ b o e⟩
  have S₅ : St g env (fun b => X b ∨ b = I2) σ₁ s₅.heap := S₄.move M (S₄.kg.trans (keeps_kp k₅)) (fun b o _ e => keeps_kp k₅ b o e) fun b hb => hb.elim (fun q => let ⟨o, ho⟩ := S₄.lv b q; ⟨o, keeps_kp k₅ b o ho⟩) fun q => q ▸ o₅
  have H₅ : Fm g env (fun b => X b ∨ b = I2) := H.mono (fun b hb => .inl hb) fun b hb => hb.elim (H.xg b) fun q => q ▸ none_of S₄.kg fr
  have acc₅ : Acc (fun b => X b ∨ b = I2) s₅.heap D outs := acc₄.move M fun o e => keeps_kp k₅ _ o e
  refine wpAny_runOwn (codeAny_mono (comp_start (tgt := tgt2) (iter := iter2) (ifs := ifs2) rfl it₅ (comp_core (Z := Z) (gf := fun y => if pz y = true then [f y] else []) (enc := enc2) (turn_in elt tgt iter tgt2 iter2 [] ifs2 scope pos (.ref I2) (.ref D) env) H₅ liveX hIO hDX hZX ?_ hsz it₅ S₅ acc₅)) fun r s₆ ⟨er, k₆, S₆, acc₆⟩ => ?_)
  · intro y hy s v outs hz S rv ho acc
    obtain ⟨h1, h2, h3, h4⟩ := hin _ H₅ y hy
    exact step1 H₅ (.inl hDX) hDO (fun b hb => .inl (hZX b hb)) hZD hDslot (fun _ _ _ => trivial) h1 h2 h3 h4 (by omega) S rv ho acc
  · subst er
    have k05 : KeepsX Z s₃ s₅ := keeps_x (keeps_trans k₄ k₅)
    refine wpAny_pure ⟨rfl, ?_, S₆.sub hsub, acc₆⟩
    refine ((k03.mono fun b hb => hb.1).trans (keeps_x k₄)).trans ?_
    obtain ⟨h₅, t₅, rfl, q₅⟩ := k₅
    obtain ⟨h₆, t₆, rfl, q₆⟩ := k₆
    exact ⟨h₆, t₆, rfl, fun b o hb e => q₆ b o (fun q => q.elim hb fun q => by rw [q, fr] at e; cases e) (q₅ b o e)⟩

theorem ownC_own {scope : Scope} {C b : Addr} (h : OwnC scope C b) : Own (envC scope env C) b := by
  rcases h with rfl | ⟨n, e⟩
  · exact .inl rfl
  · refine .inr ⟨n, ?_⟩
    show (cellsC scope env C).lookup n = some b
    unfold cellsC
    rw [cellsFrom_append, lookup_append, e]; rfl

/-- a comprehension: what its walk comes to -/
structure Cp (prog : Program) (w : World) (g : Heap) (A : Around) (env : Env) (X : Addr → Prop) (σ : List (Str × AV)) (elt : Expr) (gens : List Comprehension) (scope : Scope) (pos : Pos) (out : List AV) : Prop where
  ex : ∃ tgt iter ifs gs src l, gens = ⟨tgt, iter, ifs, 0⟩ :: gs ∧ (∀ x, foldedSetIterable iter env x = pure x) ∧ closOk scope env = true ∧ scope.kind = .function ∧ (scope.names.map (·.1)).Nodup ∧ Ev prog w g A env X σ iter src ∧ Iters src l ∧
    (∀ (C I D : Addr) (X' : Addr → Prop) (s : Shared), InC g scope env C I D X' → IterAt prog w A (fun b => X' b ∨ b = I) s.heap I l 0 → St g (envC scope env C) (fun b => X' b ∨ b = I) (inner scope σ) s.heap → Acc (fun b => X' b ∨ b = I) s.heap D [] →
      codeAny (model prog w) A (.compStart (.ListComp elt gens scope pos) 0 (.ref I) (.ref D) (envC scope env C)) (fun r s' => r = .ok .next ∧ KeepsX (fun b => (b = D ∨ OwnC scope C b) ∨ b = I) s s' ∧ St g (envC scope env C) X' (inner scope σ) s'.heap ∧ Acc X' s'.heap D out) s)

theorem flatMap_if {α β : Type} (p : α → Bool) (f : α → β) (l : List α) : (l.flatMap fun x => if p x = true then [f x] else []) = (l.filter p).map f := by
  induction l with
  | nil => rfl
  | cons x l ih => rw [List.flatMap_cons, List.filter_cons, ih]; cases p x <;> rfl

theorem cp_one {α : Type} {elt tgt iter : Expr} {ifs : List Expr} {scope : Scope} {pos : Pos} {src : AV} {xs : List α} {enc f : α → AV} {pz : α → Bool} {bd : α → List (Str × AV)}
    (hs : ∀ x, foldedSetIterable iter env x = pure x) (hclos : closOk scope env = true) (hkind : scope.kind = .function) (hnd : (scope.names.map (·.1)).Nodup) (hit : Ev prog w g A env X σ iter src) (hsrc : Iters src (xs.map enc)) (hsz : xs.length ≤ 100000)
    (body : ∀ (C : Addr) (X' : Addr → Prop), Fm g (envC scope env C) X' → ∀ x ∈ xs, Asg prog w g A (envC scope env C) X' (OwnC scope C) tgt (enc x) (inner scope σ) (bd x) ∧ (∀ z, (inner scope σ).lookup z = none ∨ (inner scope σ).lookup z = (bd x).lookup z) ∧
      Tests prog w g A (envC scope env C) X' (bd x) ifs (pz x) ∧ (pz x = true → Ev prog w g A (envC scope env C) X' (bd x) elt (f x))) :
    Cp prog w g A env X σ elt [⟨tgt, iter, ifs, 0⟩] scope pos ((xs.filter pz).map f) := by
  refine ⟨_, _, _, _, src, _, rfl, hs, hclos, hkind, hnd, hit, hsrc, fun C I D X' s i it S acc => ?_⟩
  refine comp_start (tgt := tgt) (iter := iter) (ifs := ifs) rfl it ?_
  have := comp_core (outs₀ := []) (Z := fun b => b = D ∨ OwnC scope C b) (X := X') (gf := fun x => if pz x = true then [f x] else []) (enc := enc) (turn_one elt tgt iter ifs scope pos (.ref I) (.ref D) (envC scope env C)) i.H i.ix i.io i.dx (fun b hb => hb.elim (fun e => e ▸ i.dx) (i.ox b)) ?_ ?_ it S acc
  · rw [flatMap_if, List.nil_append] at this
    exact this
  · intro x hx s v outs hz S rv ho acc
    obtain ⟨h1, h2, h3, h4⟩ := body C _ i.H x hx
    exact step1 i.H (.inl i.dx) i.dno (fun b hb => .inl (hb.elim (fun e => e ▸ i.dx) (i.ox b))) (.inl rfl) (fun b hb => hb.imp id ownC_own) (fun _ _ _ => trivial)
      (asg_mono h1 fun b hb => ⟨.inr hb, fun e => i.dno (e ▸ ownC_own hb)⟩) h2 h3 h4 (by omega) S rv ho acc
  · rw [flatMap_if, List.length_map]
    have := List.length_filter_le pz xs
    simp only [List.length_nil]; omega

theorem cp_two {α β : Type} {elt tgt iter tgt2 iter2 : Expr} {ifs2 : List Expr} {scope : Scope} {pos : Pos} {src : AV} {xs : List α} {enc : α → AV} {bd : α → List (Str × AV)} {src2 : α → AV} {ys : α → List β} {enc2 : α → β → AV} {f : α → β → AV} {pz : α → β → Bool} {bd2 : α → β → List (Str × AV)}
    (hh : A.handled = none) (hs : ∀ x, foldedSetIterable iter env x = pure x) (hclos : closOk scope env = true) (hkind : scope.kind = .function) (hnd : (scope.names.map (·.1)).Nodup) (hit : Ev prog w g A env X σ iter src) (hsrc : Iters src (xs.map enc))
    (hs2 : ∀ C x, foldedSetIterable iter2 (envC scope env C) x = pure x) (hsz : (xs.flatMap fun x => ((ys x).filter (pz x)).map (f x)).length ≤ 100000)
    (body : ∀ (C : Addr) (X' : Addr → Prop), Fm g (envC scope env C) X' → ∀ x ∈ xs, Asg prog w g A (envC scope env C) X' (OwnC scope C) tgt (enc x) (inner scope σ) (bd x) ∧ (∀ z, (inner scope σ).lookup z = none ∨ (inner scope σ).lookup z = (bd x).lookup z) ∧
      Ev prog w g A (envC scope env C) X' (bd x) iter2 (src2 x) ∧ Iters (src2 x) ((ys x).map (enc2 x)))
    (body2 : ∀ (C : Addr) (X' : Addr → Prop), Fm g (envC scope env C) X' → ∀ x ∈ xs, ∀ y ∈ ys x, Asg prog w g A (envC scope env C) X' (OwnC scope C) tgt2 (enc2 x y) (bd x) (bd2 x y) ∧ (∀ z, (bd x).lookup z = none ∨ (bd x).lookup z = (bd2 x y).lookup z) ∧
      Tests prog w g A (envC scope env C) X' (bd2 x y) ifs2 (pz x y) ∧ (pz x y = true → Ev prog w g A (envC scope env C) X' (bd2 x y) elt (f x y))) :
    Cp prog w g A env X σ elt [⟨tgt, iter, [], 0⟩, ⟨tgt2, iter2, ifs2, 0⟩] scope pos (xs.flatMap fun x => ((ys x).filter (pz x)).map (f x)) := by
  refine ⟨_, _, _, _, src, _, rfl, hs, hclos, hkind, hnd, hit, hsrc, fun C I D X' s i it S acc => ?_⟩
  refine comp_start (tgt := tgt) (iter := iter) (ifs := []) rfl it ?_
  have := comp_core (outs₀ := []) (Z := fun b => b = D ∨ OwnC scope C b) (X := X') (gf := fun x => (ys x).flatMap fun y => if pz x y = true then [f x y] else []) (enc := enc) (turn_out elt tgt iter tgt2 iter2 [] ifs2 scope pos (.ref I) (.ref D) (envC scope env C)) i.H i.ix i.io i.dx (fun b hb => hb.elim (fun e => e ▸ i.dx) (i.ox b)) ?_ ?_ it S acc
  · simp only [flatMap_if, List.nil_append] at this
    exact this
  · intro x hx s v outs hz S rv ho acc
    obtain ⟨h1, h2, h3, h4⟩ := body C _ i.H x hx
    exact step2 i.H hh (.inl i.dx) i.dno (fun b hb => .inl (hb.elim (fun e => e ▸ i.dx) (i.ox b))) (.inl rfl) (fun b hb => hb.imp id ownC_own)
      (asg_mono h1 fun b hb => ⟨.inr hb, fun e => i.dno (e ▸ ownC_own hb)⟩) h2 (hs2 C) h3 h4 (fun X' H' y hy => by
        obtain ⟨q1, q2, q3, q4⟩ := body2 C X' H' x hx y hy
        exact ⟨asg_mono q1 fun b hb => ⟨.inr hb, fun e => i.dno (e ▸ ownC_own hb)⟩, q2, q3, q4⟩) hz S rv ho acc
  · simp only [flatMap_if, List.length_nil]; omega

theorem ev_cp {elt gens scope pos out} (H : Fm g env X) (hh : A.handled = none) (c : Cp prog w g A env X σ elt gens scope pos out) : Ev prog w g A env X σ (.ListComp elt gens scope pos) (.list out) := fun s S => by
  obtain ⟨tgt, iter, ifs, gs, src, l, rfl, hs, hclos, hkind, hnd, hit, hsrc, hl⟩ := c.ex
  rw [eval_ListComp]
  show wpAny _ A (comprehension _ scope env _ (newList []) false (eval iter env)) _ _ s
  refine comp_run (use := none) (g0 := ⟨tgt, iter, ifs, 0⟩) H S hh rfl hs hclos hkind hnd hit hsrc hl fun C D s' k fr ⟨m, hm⟩ hCD r => ?_
  refine ⟨m, hm, fun h' hs' => ?_⟩
  have kc : KpX (· = C) s'.heap h' := fun b o hb e => hs'.extBut b o hb e
  refine ⟨?_, (r.move (kc.mono fun b hb => .inr hb).move).move (Move.less fun b hb => .inl hb)⟩
  obtain ⟨h₁, t₁, rfl, q⟩ := k
  exact ⟨h', t₁, rfl, fun b o e => kc b o (fun z => by rw [z, fr] at e; cases e) (q b o e)⟩

theorem bg_cp {x p elt gens scope pos spos rest out Z J R} (H : Fm g env X) (hh : A.handled = none) (hZ : ∀ b, Own env b → Z b) (hJ : StJ env J) (c : Cp prog w g A env X σ elt gens scope pos out)
    (hk : env.kindOf x = some .local) (hsw : swapsWith (.ListComp elt gens scope pos) (some (.Name x p)) spos.line env = pure true)
    (h : Bg prog w g A env X Z ((x, .list out) :: σ) J rest R) : Bg prog w g A env X Z σ J (.Assign [.Name x p] (.ListComp elt gens scope pos) spos :: rest) R := fun s S j => by
  obtain ⟨tgt, iter, ifs, gs, src, l, rfl, hs, hclos, hkind, hnd, hit, hsrc, hl⟩ := c.ex
  refine wpAny_execs_cons ?_
  rw [exec_Assign_Name_used _ _ _ _ hsw]
  refine wpAny_bind (wpAny_standAt (wpAny_bind ?_))
  show wpAny _ A (do let _ ← comprehension (.ListComp elt (⟨tgt, iter, ifs, 0⟩ :: gs) scope pos) scope env _ (newList []) false (eval iter env) (some (assign (.Name x p) env))) _ _ s
  refine wpAny_bind (wpAny_mono (comp_run (g0 := ⟨tgt, iter, ifs, 0⟩) (use := some (assign (.Name x p) env)) (Q := fun v s' => KeepsX Z s s' ∧ St g env X ((x, .list out) :: σ) s'.heap ∧ J s'.heap) H S hh rfl hs hclos hkind hnd hit hsrc hl fun C D s' k fr ⟨m, hm⟩ hCD r => ?_) (fun _ s' ⟨kz, S', j'⟩ => wpAny_pure (wpAny_pure ?_)) fun _ _ e => e)
  · show wpAny _ A (assign (.Name x p) env (.ref D)) _ _ s'
    have M : Move X s.heap (fun b => X b ∨ b = C) s'.heap := fun b o hb e => ⟨fun q => q.elim hb fun q => (by rw [q, fr] at e; cases e), keeps_kp k b o e⟩
    have S' : St g env (fun b => X b ∨ b = C) σ s'.heap := S.move M (S.kg.trans (keeps_kp k)) (fun b o _ e => keeps_kp k b o e) fun b hb => hb.elim (fun q => let ⟨o, ho⟩ := S.lv b q; ⟨o, keeps_kp k b o ho⟩) fun q => by obtain ⟨o, _, _, ho, _⟩ := hm; exact ⟨o, q ▸ ho⟩
    have H' : Fm g env (fun b => X b ∨ b = C) := H.mono (fun b hb => .inl hb) fun b hb => hb.elim (H.xg b) fun q => q ▸ none_of S.kg fr
    have hCO : ¬ Own env C := fun hb => by obtain ⟨o, ho⟩ := S.lv _ (own_x H hb); rw [fr] at ho; cases ho
    refine wpAny_assign_Name (store_name' H' S' r (.inl hk) fun s'' k'' S'' => ?_)
    have nC : s''.heap.Ns C m := hm.at' fun o e => k''.kp _ o (fun q => hCO (slot_own q)) e
    refine ⟨m, nC, fun h' hs' => ?_⟩
    have kc : KpX (· = C) s''.heap h' := fun b o hb e => hs'.extBut b o hb e
    have S3 : St g env X ((x, .list out) :: σ) h' := by
      refine S''.move (fun b o hb e => ⟨fun q => hb (.inl q), kc b o (fun q => hb (.inr q)) e⟩) (fun b o e => kc b o (fun q => ?_) (S''.kg b o e)) (fun b o hb e => kc b o (fun q => hCO (q ▸ hb)) e) fun b hb => ?_
      · rw [q, none_of S.kg fr] at e; cases e
      · obtain ⟨o, ho⟩ := S''.lv b (.inl hb)
        exact ⟨o, kc b o (fun q => by obtain ⟨o, ho⟩ := S.lv b hb; rw [q, fr] at ho; cases ho) ho⟩
    have k03 : KeepsX (Own env) s { s'' with heap := h' } := by
      obtain ⟨h₁, t₁, rfl, q⟩ := k
      obtain ⟨h₂, t₂, rfl, q₂⟩ := k''
      exact ⟨h', t₂, rfl, fun b o hb e => kc b o (fun z => by rw [z, fr] at e; cases e) (q₂ b o (fun z => hb (slot_own z)) (q b o e))⟩
    exact ⟨k03.mono hZ, S3, hJ _ _ k03.kp j⟩
  · exact wpAny_mono (h s' S' j') (fun f s₃ ⟨k₃, q⟩ => ⟨kz.trans k₃, q⟩) fun _ _ e => e
end
end Mine
end

section
open PySem PySem.W PyProof.Rows
set_option Elab.async false
set_option maxRecDepth 100000
set_option linter.unusedVariables false
namespace Mine
theorem plain_update_loop : plainId "dict.update.loop" = true := by decide +kernel
theorem entry_update_loop : entryFor table "dict.update.loop" = some Builtin.«dict.update.loop» := entryFor_of_fast (by kernel_rfl)
theorem list_keys_none : typeLookup (.type "list") "keys" = pure none := am_miss_of_fast (by decide +kernel)

section
variable {prog : Program} {w : World} {g : Heap} {mg mb : Str → Option Value} {A : Around} {env : Env} {X X' : Addr → Prop} {σ σ' : List (Str × AV)} {E : Value → Shared → Prop} {R : Result → Shared → Prop}

theorem getAttrBy_miss_list {s : Shared} {a : Addr} {o : Obj} {xs : Array Value} {k : Nat} {name : Str} {u : Tok} {Q : Value → Shared → Prop}
    (hx : s.heap.get? a = some o) (hc : o.cls = .type "list") (hdat : o.data = .seq xs k) (hd : o.dict = none) (hsl : o.slots = #[]) (hmiss : typeLookup (.type "list") name = pure none) (hname : (["__module__", "__name__", "__qualname__", "__doc__", "__annotations__"] : List Str).contains name = false) (hA : A.handled = none)
    (h : ∀ h' tk e, Heap.NewExcOf s.heap h' e "AttributeError" → E (.ref e) { s with heap := h', toks := tk }) (hsz : name.length + 100 ≤ sizeLine := by size_fits) :
    wpAny (model prog w) A (getAttrBy (.ref a) (.str name u) false) Q E s := by
  obtain ⟨c, dct, dat, sl⟩ := o
  simp only at hc hdat hd hsl
  subst hc hdat hd hsl
  obtain ⟨hp, g, d, tk, os⟩ := s
  have hT : ∀ tk', (⟨hp, g, d, tk', os⟩ : Shared).TypeIs (.ref a) "list" := fun _ => ⟨_, hx, rfl⟩
  have f1 := sub_AttributeError
  have f3 := F.slot_list_getattribute.lookup
  have f4 := F.slot_list_getattribute.bind (.ref a)
  have f5 := am_list_getattr_none
  unfold getAttrBy
  repeat (any_goals (first | assumption | exact hT _ | ((with_reducible show wpAny _ _ (call (Value.builtin "list.__getattribute__") _ _) _ _ _); refine call_meets F.slot_list_getattribute (hT _) am_entry_list_getattribute (F.args_list_getattribute_2 _ _) (meets_getattribute_miss_list a xs k _ name _ hmiss hname hsz) ⟨hx, hA, fun h' tk' e hx' => ?_⟩) | wp_step))
  obtain ⟨t', u', he⟩ := hx'.there
  show wpAny _ _ (getattributeRaised _ _ _ _ _ _ _) _ _ _
  unfold getattributeRaised
  repeat (any_goals (first | assumption | wp_step))
  exact h _ _ _ hx'.of

theorem keys_miss {s : Shared} {a : Addr} {xs : Array Value} {n : Nat} {Q : Option Value → Shared → Prop} (ho : s.heap.get? a = some (seqObj "list" xs n)) (hA : A.handled = none) (h : ∀ s', Keeps s s' → Q none s') :
    wpAny (model prog w) A (getAttr? (.ref a) "keys") Q E s := by
  unfold getAttr? getAttrBy?
  refine wpAny_bind (wpAny_mkText (wpAny_bind (wpAny_attempt ?_)))
  refine getAttrBy_miss_list (s := { s with toks := s.toks + 1 }) (o := seqObj "list" xs n) ho rfl rfl rfl rfl list_keys_none (by decide +kernel) hA fun h' tk e hx => ?_
  obtain ⟨ob, vs, he, hc, _⟩ := hx.there
  refine wpAny_bind (wpAny_isInstance (T := "AttributeError") (by exact ⟨ob, he, hc⟩) sub_AttributeError ?_)
  exact wpAny_pure (h _ ⟨h', tk, rfl, hx.keeps⟩)

theorem upd_loop {β : Type} {xs : List β} {kf vf : β → AV} {DV : List β → Heap → Prop} {d I : Addr} {Y : Addr → Prop} (hYd : Y d) (hYI : Y I) (hne : d ≠ I)
    (hset : ∀ (pre : List β) (x : β) (s : Shared) (kv vv : Value), Rel Y s.heap (kf x) kv → Rel Y s.heap (vf x) vv → DV pre s.heap → pre.length < xs.length → wpAny (model prog w) A.in1 (dictSet d kv vv) (fun _ s' => KeepsX (· = d) s s' ∧ DV (pre ++ [x]) s'.heap) F0 s)
    (hmv : ∀ pre h h', DV pre h → KpX (· = I) h h' → DV pre h') :
    ∀ (rest pre : List β) (s : Shared) (i : Int) (t : Tok), xs = pre ++ rest → IterAt prog w A.in1 Y s.heap I (xs.map fun x => .tup [kf x, vf x]) pre.length → DV pre s.heap →
      codeAny (model prog w) A (.builtin "dict.update.loop" ⟨[.ref d, .ref I, .int i t, .none], []⟩) (fun r s' => r = .ok (.ret .none) ∧ KeepsX (fun b => b = d ∨ b = I) s s' ∧ DV xs s'.heap) s := by
  intro rest
  induction rest with
  | nil =>
    intro pre s i t hx it dv
    rw [List.append_nil] at hx
    subst hx
    refine codeAny_builtin entry_update_loop ?_
    rw [Around.under_plainId plain_update_loop _]
    show wpAny _ A.in1 (pyNext (.ref I) >>= _) _ _ s
    refine wpAny_bind (iter_next it hYI (by simp) (fun a v s₁ ha _ _ _ => ?_) fun s₁ he k₁ => ?_)
    · rw [List.getElem?_eq_none (by simp)] at ha; cases ha
    · show wpAny _ A.in1 (Builtin.Dict.addKeywords d [] >>= _) _ _ s₁
      unfold Builtin.Dict.addKeywords
      exact wpAny_bind (wpAny_pure (wpAny_pure ⟨rfl, k₁.mono fun b hb => .inr hb, hmv _ _ _ dv k₁.kp⟩))
  | cons x rest ih =>
    intro pre s i t hx it dv
    refine codeAny_builtin entry_update_loop ?_
    rw [Around.under_plainId plain_update_loop _]
    show wpAny _ A.in1 (pyNext (.ref I) >>= _) _ _ s
    refine wpAny_bind (iter_next it hYI (by rw [hx]; simp) (fun a v s₁ ha k₁ r₁ it₁ => ?_) fun s₁ he k₁ => ?_)
    · have ea : a = .tup [kf x, vf x] := by rw [hx] at ha; simpa using ha.symm
      subst ea
      simp only [Rel] at r₁
      obtain ⟨p, vs, n, rfl, hp, ho, q⟩ := r₁
      match vs, q with
      | [kv, vv], q =>
        simp only [RelL] at q
        obtain ⟨qk, qv, _⟩ := q
        have hT : s₁.TypeIs (.ref p) "tuple" := ⟨_, ho, rfl⟩
        have dv₁ := hmv _ _ _ dv k₁.kp
        refine wpAny_bind (wpAny_holding (wpAny_bind (wpAny_tryCatch ?_)))
        unfold Builtin.Dict.pairItems
        refine wpAny_bind (wpAny_typeOf hT ?_)
        rw [if_pos (by decide)]
        refine wpAny_bind (wpAny_seqItems ho rfl ?_)
        refine wpAny_pure ?_
        show wpAny _ A.in1 (holding [kv, vv] (dictSet d kv vv)) _ _ s₁
        refine wpAny_holding (wpAny_mono (hset pre x s₁ kv vv qk qv dv₁ (by rw [hx]; simp)) (fun _ s₂ ⟨k₂, dv₂⟩ => ?_) fun _ _ e => e.elim)
        refine wpAny_pure ⟨plainId_quiet plain_update_loop _, ?_⟩
        have kA : KeepsX (fun b => b = d ∨ b = I) s s₂ := (k₁.mono fun b hb => .inr hb).trans (k₂.mono fun b hb => .inl hb)
        refine codeAny_mono (ih (pre ++ [x]) s₂ _ _ (by rw [hx]; simp) ?_ dv₂) fun r s₃ ⟨e, k₃, dv₃⟩ => ⟨e, kA.trans k₃, dv₃⟩
        have := it₁.move (k₂.kp.mono (Z' := Y) fun b hb => hb ▸ hYd).move fun o e => k₂.kp _ o (Ne.symm hne) e
        simpa using this
      | [], q => simp only [RelL] at q
      | [_], q => simp only [RelL] at q; exact q.2.elim
      | _ :: _ :: _ :: _, q => simp only [RelL] at q; exact q.2.2.elim
    · rw [hx] at he; simp at he


theorem IsRows.move' {Y Y' : Addr → Prop} {h h' : Heap} {d : Addr} {xs} (x : IsRows Y h d xs) (hd : ∀ o, h.get? d = some o → h'.get? d = some o) (M : Move Y h Y' h') : IsRows Y' h' d xs := by
  obtain ⟨es, ep, ho, he, hr, hn⟩ := x
  refine ⟨es, ep, hd _ ho, he, fun y hy => ?_, hn⟩
  obtain ⟨h1, vs, n, h2, h3⟩ := hr y hy
  exact ⟨(M _ _ h1 h2).1, vs, n, (M _ _ h1 h2).2, h3⟩

/-- dict(pairs) -/
theorem call_dict_pairs {β : Type} {xs : List β} {kf vf : β → AV} {DV : Addr → Addr → List β → Heap → Prop} {s : Shared} {v : Value} {Q : Value → Shared → Prop} (hX : ∀ b, X b → (∃ o, s.heap.get? b = some o) ∧ g.get? b = none) (hh : A.handled = none)
    (r : Rel X s.heap (.list (xs.map fun x => .tup [kf x, vf x])) v)
    (hnew : ∀ (I : Addr) (h : Heap), h.get? s.heap.objs.size = some { cls := .type "dict", data := .dict #[] } → DV s.heap.objs.size I [] h)
    (hset : ∀ (d I : Addr) (pre : List β) (x : β) (s : Shared) (kv vv : Value), d ≠ I → Rel (fun b => (X b ∨ b = d) ∨ b = I) s.heap (kf x) kv → Rel (fun b => (X b ∨ b = d) ∨ b = I) s.heap (vf x) vv → DV d I pre s.heap → pre.length < xs.length → d ≠ sysModules → wpAny (model prog w) A.in1.in1 (dictSet d kv vv) (fun _ s' => KeepsX (· = d) s s' ∧ DV d I (pre ++ [x]) s'.heap) F0 s)
    (hmvI : ∀ (d I : Addr) pre h h', DV d I pre h → d ≠ I → KpX (· = I) h h' → DV d I pre h') (hsys : s.heap.objs.size ≠ sysModules)
    (h : ∀ I s', Keeps s s' → s.heap.get? I = none → DV s.heap.objs.size I xs s'.heap → Q (.ref s.heap.objs.size) s') : wpAny (model prog w) A (call (.type "dict") [v]) Q F0 s := by
  refine callType_codes (Q₁ := fun obj s₁ => obj = .ref s.heap.objs.size ∧ s₁ = { s with heap := s.heap.push { cls := .type "dict", data := .dict #[] } }) F.kt_called_dict (F.kt_typeCall_dict_1 _) F.entry_dict_init (kt_code_dict_new _ ⟨rfl, rfl⟩) ?_
  rintro obj s₁ ⟨rfl, rfl⟩
  generalize hd : s.heap.objs.size = d at hnew h hsys ⊢
  have frd : s.heap.get? d = none := Heap.get?_none_of_le (Nat.le_of_eq hd)
  have k1 : Keeps s { s with heap := s.heap.push { cls := .type "dict", data := .dict #[] } } := keeps_push s _
  have od : (s.heap.push { cls := .type "dict", data := .dict #[] }).get? d = some { cls := .type "dict", data := .dict #[] } := hd ▸ Heap.get?_push_size _ rfl
  generalize hs1 : ({ s with heap := s.heap.push { cls := .type "dict", data := .dict #[] } } : Shared) = s₁ at k1 ⊢
  have od : s₁.heap.get? d = some { cls := .type "dict", data := .dict #[] } := hs1 ▸ od
  have M1 : Move X s.heap (fun b => X b ∨ b = d) s₁.heap := fun b o hb e => ⟨fun q => q.elim hb fun q => (by rw [q, frd] at e; cases e), keeps_kp k1 b o e⟩
  have r1 := r.move M1
  have r1' := r1
  simp only [Rel] at r1'
  obtain ⟨a, vs, n, rfl, ha, ho, q⟩ := r1'
  refine ⟨⟨_, od, rfl⟩, F.args_dict_init_2 _ _, ?_⟩
  unfold Builtin.«dict.__init__»
  refine wpAny_bind ?_
  unfold Builtin.Dict.selfAndRest
  refine wpAny_bind (wpAny_notOrdered_dict ⟨_, od, rfl⟩ ?_)
  show wpAny _ _ (pure (d, [Value.ref a])) _ _ _
  refine wpAny_pure ?_
  show wpAny _ _ (Builtin.Dict.updateFrom "dict.__init__" d (.ref a) [] .none) _ _ _
  unfold Builtin.Dict.updateFrom
  refine wpAny_bind (wpAny_typeOf (T := "list") ⟨_, ho, rfl⟩ ?_)
  rw [if_pos (by decide)]
  refine wpAny_bind (keys_miss ho hh fun s₂ k2 => ?_)
  rw [if_pos (by rfl)]
  refine wpAny_bind (wpAny_rule ?_)
  have r2 := rel_ks r1 k2
  refine wpAny_bind (wpAny_mono (iter_src (A' := A.in1.in1) hh (.list _) r2) (fun it s₃ h3 => ?_) fun _ _ e => e.elim)
  obtain ⟨k3, e3, it3, o3⟩ := h3
  subst e3
  generalize hI : s₂.heap.objs.size = I at it3 o3 ⊢
  have frI : s₂.heap.get? I = none := Heap.get?_none_of_le (Nat.le_of_eq hI)
  have k13 := keeps_trans k2 k3
  have hdI : d ≠ I := fun e => by rw [← e, keeps_kp k2 _ _ od] at frI; cases frI
  have frI0 : s.heap.get? I = none := none_of (keeps_kp (keeps_trans k1 k2)) frI
  refine wpAny_bind (wpAny_pure (wpAny_pure ⟨plainId_quiet plain_update_loop _, ?_⟩))
  refine codeAny_mono (upd_loop (A := A.in1) (xs := xs) (kf := kf) (vf := vf) (DV := DV d I) (Y := fun b => (X b ∨ b = d) ∨ b = I) (.inl (.inr rfl)) (.inr rfl) hdI (fun pre x s kv vv r1 r2 dv hl => hset d I pre x s kv vv hdI r1 r2 dv hl hsys) (fun pre h h' dv k => hmvI d I pre h h' dv hdI k) xs [] s₃ 0 0 rfl it3 (hnew I _ (keeps_kp k13 _ _ od))) fun r s₄ ⟨e, k4, dv⟩ => ?_
  subst e
  refine ⟨rfl, h I s₄ ?_ frI0 dv⟩
  obtain ⟨h₃, t₃, rfl, q₃⟩ := keeps_trans k1 k13
  obtain ⟨h₄, t₄, rfl, q₄⟩ := k4
  exact ⟨h₄, t₄, rfl, fun b o e => q₄ b o (fun z => z.elim (fun z => by rw [z, frd] at e; cases e) fun z => by rw [z, frI0] at e; cases e) (q₃ b o e)⟩

theorem live_sys {s : Shared} (k : Kp g s.heap) (hg : ∃ o, g.get? sysModules = some o) : s.heap.objs.size ≠ sysModules := fun e => by
  obtain ⟨o, ho⟩ := hg
  exact absurd (Heap.lt_size (k _ _ ho)) (by rw [e]; exact Nat.lt_irrefl _)

/-- the keys of rows, each one once, in the order of their first place -/
noncomputable def firsts {α : Type} [DecidableEq α] (l : List α) : List α := l.foldl (fun acc x => if x ∈ acc then acc else acc ++ [x]) []
theorem firsts_snoc {α : Type} [DecidableEq α] (l : List α) (x : α) : firsts (l ++ [x]) = if x ∈ firsts l then firsts l else firsts l ++ [x] := by
  unfold firsts; rw [List.foldl_append]; rfl
theorem mem_firsts {α : Type} [DecidableEq α] (l : List α) (x : α) : x ∈ firsts l ↔ x ∈ l := by
  have h : ∀ (l acc : List α), x ∈ l.foldl (fun acc x => if x ∈ acc then acc else acc ++ [x]) acc ↔ x ∈ acc ∨ x ∈ l := by
    intro l
    induction l with
    | nil => intro acc; simp
    | cons y l ih =>
      intro acc
      rw [List.foldl_cons, ih, List.mem_cons]
      split
      · constructor
        · rintro (q | q)
          · exact .inl q
          · exact .inr (.inr q)
        · rintro (q | rfl | q)
          · exact .inl q
          · exact .inl (by assumption)
          · exact .inr q
      · rw [List.mem_append, List.mem_singleton, or_assoc]
  simpa [firsts] using h l []
theorem firsts_nodup {α : Type} [DecidableEq α] (l : List α) : (firsts l).Nodup := by
  have h : ∀ (l acc : List α), acc.Nodup → (l.foldl (fun acc x => if x ∈ acc then acc else acc ++ [x]) acc).Nodup := by
    intro l
    induction l with
    | nil => intro acc h; exact h
    | cons y l ih =>
      intro acc h
      rw [List.foldl_cons]
      refine ih _ ?_
      split
      · exact h
      · rename_i hy
        rw [List.nodup_append]
        exact ⟨h, by simp, fun a ha b hb => by rw [List.mem_singleton] at hb; rintro rfl; exact hy (hb ▸ ha)⟩
  exact h l [] List.nodup_nil
theorem firsts_length {α : Type} [DecidableEq α] (l : List α) : (firsts l).length ≤ l.length := by
  have h : ∀ (l acc : List α), (l.foldl (fun acc x => if x ∈ acc then acc else acc ++ [x]) acc).length ≤ acc.length + l.length := by
    intro l
    induction l with
    | nil => intro acc; simp
    | cons y l ih =>
      intro acc
      rw [List.foldl_cons]
      refine Nat.le_trans (ih _) ?_
      split
      · simp only [List.length_cons]; omega
      · simp only [List.length_cons, List.length_append, List.length_nil]; omega
  simpa [firsts] using h l []

theorem cl_dict_rows {l : List (List Int)} {k} (hA : Room (k + 1) A) (hz : l.length ≤ 100000) (hg : ∃ o, g.get? sysModules = some o) : Cl prog w g A X (.type "dict") [.list (l.map fun r => .tup [row r, .bool true])] (.rows (firsts l)) := fun s vs kg hX r => by
  match vs, r with
  | [v], r =>
    simp only [RelL] at r
    refine call_dict_pairs (kf := row) (vf := fun _ => .bool true) (DV := fun d I pre h => ∃ xs, IsRows (fun b => (X b ∨ b = d) ∨ b = I) h d xs ∧ xs.map (·.1) = firsts pre) hX hA.hh r.1 (fun I h ho => ⟨[], ⟨#[], 0, ho, rfl, fun _ hx => (nomatch hx), List.nodup_nil⟩, rfl⟩) ?_ ?_ (live_sys kg hg) ?_
    · intro d I pre x s kv vv hdI rk rv dv hl hds
      obtain ⟨xs, hx, e⟩ := dv
      obtain ⟨b, rfl, hb, hr⟩ := rel_row.mp rk
      simp only [Rel] at rv
      subst rv
      have hlen : xs.length ≤ 100000 := by
        have h1 := firsts_length pre
        have h2 : xs.length = (firsts pre).length := by rw [← e, List.length_map]
        have h3 : pre.length < l.length := hl
        omega
      have hx' := isRows_dict (prog := prog) (w := w) hx
      refine wpAny_dictSet_heap (knd := tupleKind (intKind prog w)) (hsz := by rw [sizeLine_eq]; omega) (by exact hA.u2) (isRow_key hr) hx' fun h' hd' hs' => ?_
      have kd : KpX (· = d) s.heap h' := fun b o hb e => hs'.extBut b o hb e
      refine ⟨⟨h', _, rfl, kd⟩, storedH xs x b (.bool true), ?_, ?_⟩
      · obtain ⟨o', es', ep', ho', hc', hdd, he', his', hn'⟩ := hd'
        obtain ⟨es, ep, ho, he, hrr, hn⟩ := hx
        have eo : o' = { cls := .type "dict", data := .dict es' ep' } := by
          obtain ⟨c, dct, dat, sl⟩ := o'
          obtain ⟨h1, h2, h3⟩ := hc'
          simp only at h1 h2 h3 hdd
          subst h1 h2 h3 hdd
          rfl
        have M : Move (fun b => (X b ∨ b = d) ∨ b = I) s.heap (fun b => (X b ∨ b = d) ∨ b = I) h' := (kd.mono (Z' := fun b => (X b ∨ b = d) ∨ b = I) fun b hb => .inl (.inr hb)).move
        refine ⟨es', ep', eo ▸ ho', he', fun y hy => ?_, hn'⟩
        rcases mem_storedH hy with ⟨z, hz, e1, e2⟩ | ⟨e1, e2⟩
        · obtain ⟨q1, us, m, q2, q3⟩ := hrr z hz
          rw [e1, e2]
          exact ⟨(M _ _ q1 q2).1, us, m, (M _ _ q1 q2).2, q3⟩
        · obtain ⟨us, m, q2, q3⟩ := hr
          rw [e1, e2]
          exact ⟨(M _ _ hb q2).1, us, m, (M _ _ hb q2).2, q3⟩
      · rw [firsts_snoc, ← e]
        unfold storedH
        rw [atKey_isSome]
        by_cases hm : x ∈ xs.map (·.1)
        · rw [if_pos hm, decide_eq_true hm, if_pos rfl, keys_map_putAt]
        · rw [if_neg hm, decide_eq_false hm, if_neg (by simp), List.map_append]; rfl
    · intro d I pre h h' ⟨xs, hx, e⟩ hdI k
      refine ⟨xs, hx.move' (fun o e => k _ o hdI e) (k.mono (Z' := fun b => (X b ∨ b = d) ∨ b = I) fun b hb => .inr hb).move, e⟩
    · intro I s' k frI ⟨xs, hx, e⟩
      refine ⟨k, ?_⟩
      simp only [Rel]
      refine ⟨_, xs, rfl, fresh_off hX (Nat.le_refl _), live_sys kg hg, hx.move' (fun _ e => e) (Move.less fun b hb => .inl (.inl hb)), e⟩
  | [], r => simp only [RelL] at r
  | _ :: _ :: _, r => simp only [RelL] at r; exact r.2.elim


theorem IsInts.move' {h h' : Heap} {d : Addr} {f} (x : IsInts h d f) (hd : ∀ o, h.get? d = some o → h'.get? d = some o) : IsInts h' d f := let ⟨es, ep, ho, r⟩ := x; ⟨es, ep, hd _ ho, r⟩
noncomputable def IntsLe (h : Heap) (d : Addr) (f : Int → Option Value) (n : Nat) : Prop := IsInts h d f ∧ h.DictLe d n
theorem IntsLe.move {h h' : Heap} {d : Addr} {f n} (x : IntsLe h d f n) (hd : ∀ o, h.get? d = some o → h'.get? d = some o) : IntsLe h' d f n :=
  ⟨x.1.move' hd, let ⟨es, ep, ho, _⟩ := x.1; x.2.of_same ho (hd _ ho)⟩
theorem isInts_mapOf {h : Heap} {d : Addr} {f} (x : IsInts h d f) : h.MapOf (intKind prog w) d f := by
  obtain ⟨es, ep, ho, hk, hf⟩ := x
  refine ⟨_, es, ep, ho, ⟨rfl, rfl, rfl⟩, rfl, fun e he => ?_, hf⟩
  obtain ⟨k, t, h1, h2⟩ := hk e he
  exact ⟨k, by rw [h1]; simp [intKind, Value.isInt], h2⟩
theorem findBy_push_int {es : Array DictEntry} {k x : Int} {t : Tok} {hs : Int} {v : Value} (hi : (es.findIdx? fun e => Value.isInt k e.key) = none) :
    findBy Value.isInt (es.push ⟨hs, .int k t, v⟩) x = if x = k then some v else findBy Value.isInt es x :=
  findBy_push Value.isInt es k x _ _ v (fun y => by
    simp only [Value.isInt]
    by_cases h : y = k
    · subst h; simp
    · have : ¬ k = y := fun e => h e.symm
      simp [h, this]) hi

theorem dictSet_ints {s : Shared} {d : Addr} {f n} {k : Int} {t : Tok} {v : Value} {Q : Unit → Shared → Prop} (hm : IntsLe s.heap d f n) (hn : n ≤ 100000)
    (hQ : ∀ s', KeepsX (· = d) s s' → IntsLe s'.heap d (fun x => if x = k then some v else f x) (n + 1) → Q () s') : wpAny (model prog w) A (dictSet d (.int k t) v) Q E s := by
  obtain ⟨⟨es, ep, ho, hk, hf⟩, hz⟩ := hm
  have hes : es.size ≤ n := hz _ _ _ ho rfl
  have kk : ∀ (F : Obj → Obj), KeepsX (· = d) s { s with heap := s.heap.update d F, toks := s.toks + 1 } := fun F => ⟨_, _, rfl, fun b o hb e => (Heap.get?_update_other _ _ (fun h : d = b => hb h.symm)).trans e⟩
  unfold dictSet
  try with_reducible refine wpAny_holding ?_
  refine wpAny_bind (wpAny_pyHash_int ?_)
  unfold dictSetHashed
  try with_reducible refine wpAny_holding ?_
  refine wpAny_bind (wpAny_dictFind_int (s := { s with toks := s.toks + 1 }) ho rfl hk ?_)
  cases hi : es.findIdx? fun e => Value.isInt k e.key with
  | some i =>
    refine wpAny_bind (wpAny_rule (wpAny_bind (wpAny_updateDict (s := { s with toks := s.toks + 1 }) ho rfl (wpAny_point (hQ _ (kk _) ⟨⟨_, ep, (Heap.get?_update_self _ ho (Obj.isFreed_of_dict (Obj.data_mapDict rfl _))).trans rfl, hk.modify _ _, fun x => ?_⟩, fun o' es' ep' ho' hd' => ?_⟩)))))
    · rw [findBy_modify Value.isInt Value.isInt_inj es k x v i hi, hf]
    · rw [Heap.get?_update_self _ ho (Obj.isFreed_of_dict (Obj.data_mapDict rfl _))] at ho'
      cases ho'
      rw [Obj.data_mapDict rfl _] at hd'
      cases hd'
      simp only [Array.size_modify]; omega
  | none =>
    refine wpAny_bind (wpAny_rule (wpAny_updateDictKeys (hz := by rw [sizeLine_eq]; omega) (s := { s with toks := s.toks + 1 }) ho rfl (hQ _ (kk _) ⟨⟨_, ep + 1, (Heap.get?_update_self _ ho (Obj.isFreed_of_dict (Obj.data_mapDictKeys rfl _))).trans rfl, hk.push _ _ _, fun x => ?_⟩, fun o' es' ep' ho' hd' => ?_⟩)))
    · rw [findBy_push_int hi, hf]
    · rw [Heap.get?_update_self _ ho (Obj.isFreed_of_dict (Obj.data_mapDictKeys rfl _))] at ho'
      cases ho'
      rw [Obj.data_mapDictKeys rfl _] at hd'
      cases hd'
      simp only [Array.size_push]; omega

theorem setDefault_ints {s : Shared} {d : Addr} {f n} {k : Int} {t : Tok} {v : Value} {Q : Value → Shared → Prop} (hm : IntsLe s.heap d f n) (hn : n ≤ 100000)
    (h1 : ∀ u, f k = some u → Q u { s with toks := s.toks + 1 })
    (h2 : f k = none → ∀ s', KeepsX (· = d) s s' → IntsLe s'.heap d (fun x => if x = k then some v else f x) (n + 1) → Q v s') : wpAny (model prog w) A (dictSetDefault d (.int k t) v) Q E s := by
  obtain ⟨⟨es, ep, ho, hk, hf⟩, hz⟩ := hm
  have hes : es.size ≤ n := hz _ _ _ ho rfl
  have kk : ∀ (F : Obj → Obj), KeepsX (· = d) s { s with heap := s.heap.update d F, toks := s.toks + 1 } := fun F => ⟨_, _, rfl, fun b o hb e => (Heap.get?_update_other _ _ (fun h : d = b => hb h.symm)).trans e⟩
  unfold dictSetDefault
  try with_reducible refine wpAny_holding ?_
  refine wpAny_bind (wpAny_pyHash_int ?_)
  refine wpAny_bind (wpAny_dictFind_int (s := { s with toks := s.toks + 1 }) ho rfl hk ?_)
  cases hi : es.findIdx? fun e => Value.isInt k e.key with
  | some i =>
    have hfk : f k = (es[i]?).map (·.val) := by rw [← hf k, findBy_of_findIdx?, hi]
    refine wpAny_bind (wpAny_dictEntries (s := { s with toks := s.toks + 1 }) ho rfl ?_)
    have hlt : i < es.size := (Array.findIdx?_eq_some_iff_findIdx_eq.mp hi).1
    rw [Array.getElem?_eq_getElem hlt] at hfk ⊢
    exact wpAny_bind (wpAny_rule (wpAny_pure (h1 _ hfk)))
  | none =>
    have hfk : f k = none := by rw [← hf k, findBy_of_findIdx?, hi]
    refine wpAny_bind (wpAny_rule (wpAny_bind (wpAny_updateDictKeys (hz := by rw [sizeLine_eq]; omega) (s := { s with toks := s.toks + 1 }) ho rfl (wpAny_pure (h2 hfk _ (kk _) ⟨⟨_, ep + 1, (Heap.get?_update_self _ ho (Obj.isFreed_of_dict (Obj.data_mapDictKeys rfl _))).trans rfl, hk.push _ _ _, fun x => ?_⟩, fun o' es' ep' ho' hd' => ?_⟩)))))
    · rw [findBy_push_int hi, hf]
    · rw [Heap.get?_update_self _ ho (Obj.isFreed_of_dict (Obj.data_mapDictKeys rfl _))] at ho'
      cases ho'
      rw [Obj.data_mapDictKeys rfl _] at hd'
      cases hd'
      simp only [Array.size_push]; omega

theorem cl_dict_ints {l : List Int} (hh : A.handled = none) (hz : l.length ≤ 100000) (hg : ∃ o, g.get? sysModules = some o) : Cl prog w g A X (.type "dict") [.list (l.map fun i => .tup [.int i, .bool true])] (.ikeys l) := fun s vs kg hX r => by
  match vs, r with
  | [v], r =>
    simp only [RelL] at r
    refine call_dict_pairs (kf := .int) (vf := fun _ => .bool true) (DV := fun d I pre h => ∃ f, IntsLe h d f pre.length ∧ ∀ k, (f k).isSome = decide (k ∈ pre)) hX hh r.1
      (fun I h ho => ⟨fun _ => none, ⟨⟨#[], 0, ho, fun _ hx => by simp at hx, fun k => by simp [findBy]⟩, fun o es ep h1 h2 => by rw [ho] at h1; cases h1; cases h2; exact Nat.le_refl _⟩, fun k => by simp⟩) ?_ ?_ (live_sys kg hg) ?_
    · intro d I pre x s kv vv hdI rk rv dv hl hds
      obtain ⟨f, hf, hs⟩ := dv
      simp only [Rel] at rk rv
      obtain ⟨t, rfl⟩ := rk
      subst rv
      have h3 : pre.length < l.length := hl
      refine dictSet_ints hf (by omega) fun s' k' hm' => ?_
      refine ⟨k', _, by simpa using hm', fun k => ?_⟩
      by_cases e : k = x
      · simp [e]
      · simp [e, hs k]
    · intro d I pre h h' ⟨f, hf, hs⟩ hdI k
      exact ⟨f, hf.move (fun o e => k _ o hdI e), hs⟩
    · intro I s' k frI ⟨f, hf, hs⟩
      refine ⟨k, ?_⟩
      simp only [Rel]
      exact ⟨_, f, rfl, fresh_off hX (Nat.le_refl _), live_sys kg hg, hf.1, hs⟩
  | [], r => simp only [RelL] at r
  | _ :: _ :: _, r => simp only [RelL] at r; exact r.2.elim
end
end Mine
end

section
open PySem PySem.W PyProof.Rows
set_option Elab.async false
set_option maxRecDepth 100000
set_option linter.unusedVariables false
namespace Mine

noncomputable def Okk {α : Type} (n : Nat) (lt : Nat → Nat → Bool) : KasT α → (α → Prop) → Prop
  | .ret a, Q => Q a
  | .ask i j k, Q => i < n ∧ j < n ∧ Okk n lt (k (lt i j)) Q
theorem okk_mono {α : Type} {n : Nat} {lt : Nat → Nat → Bool} {Q Q' : α → Prop} (hq : ∀ a, Q a → Q' a) : ∀ (t : KasT α), Okk n lt t Q → Okk n lt t Q'
  | .ret a, h => hq a h
  | .ask i j k, ⟨h1, h2, h3⟩ => ⟨h1, h2, okk_mono hq _ h3⟩
theorem okk_bind {α β : Type} {n : Nat} {lt : Nat → Nat → Bool} {Q : β → Prop} {f : α → KasT β} : ∀ (t : KasT α), Okk n lt t (fun a => Okk n lt (f a) Q) → Okk n lt (t.bind f) Q
  | .ret a, h => h
  | .ask i j k, ⟨h1, h2, h3⟩ => ⟨h1, h2, okk_bind _ h3⟩

section
variable {n : Nat} {lt : Nat → Nat → Bool}
noncomputable def Pm (n : Nat) (p : Array Nat) : Prop := p.Perm (List.range n).toArray
theorem Pm.size {p : Array Nat} (h : Pm n p) : p.size = n := by have := h.size_eq; simpa using this
theorem Pm.get {p : Array Nat} (h : Pm n p) {i : Nat} (hi : i < n) : ∃ v, p[i]? = some v ∧ p.getD i 0 = v := by
  have : i < p.size := h.size.symm ▸ hi
  exact ⟨p[i], by simp [this], by simp [Array.getD, this]⟩
theorem Pm.bd {p : Array Nat} (h : Pm n p) {i : Nat} (hi : i < n) : p.getD i 0 < n := by
  obtain ⟨v, h1, h2⟩ := h.get hi
  have hm : v ∈ p := Array.mem_of_getElem? h1
  have := (h.mem_iff (a := v)).mp hm
  rw [h2]; simpa using this
theorem Pm.inj {p : Array Nat} (h : Pm n p) {i j : Nat} (hi : i < n) (hj : j < n) (e : p.getD i 0 = p.getD j 0) : i = j := by
  obtain ⟨v, h1, h2⟩ := h.get hi
  obtain ⟨u, h3, h4⟩ := h.get hj
  have nd : p.toList.Nodup := by
    have hp : p.toList.Perm (List.range n) := by simpa using h.toList
    exact hp.symm.nodup List.nodup_range
  have e1 : p.toList[i]? = some v := by simpa using h1
  have e2 : p.toList[j]? = some v := by rw [← h2, e, h4]; simpa using h3
  exact (List.getElem?_inj (List.getElem?_eq_some_iff.mp e1).1 nd).mp (e1.trans e2.symm)

structure Lin (n : Nat) (lt : Nat → Nat → Bool) : Prop where
  tr : ∀ i j k, lt i j = true → lt j k = true → lt i k = true
  tot : ∀ i j, i < n → j < n → i ≠ j → lt i j = false → lt j i = true

noncomputable def Asc (lt : Nat → Nat → Bool) (p : Array Nat) (m : Nat) : Prop := ∀ i j, i < j → j < m → lt (p.getD i 0) (p.getD j 0) = true
noncomputable def Dsc (lt : Nat → Nat → Bool) (p : Array Nat) (m : Nat) : Prop := ∀ i j, i < j → j < m → lt (p.getD j 0) (p.getD i 0) = true

theorem asc_one {p : Array Nat} : Asc lt p 1 := fun i j h1 h2 => by omega
theorem asc_succ (L : Lin n lt) {p : Array Nat} {m : Nat} (h : Asc lt p m) (hm : 1 ≤ m) (e : lt (p.getD (m - 1) 0) (p.getD m 0) = true) : Asc lt p (m + 1) := fun i j h1 h2 => by
  by_cases hj : j = m
  · subst hj
    by_cases hi : i = j - 1
    · subst hi; exact e
    · exact L.tr _ _ _ (h i (j - 1) (by omega) (by omega)) e
  · exact h i j h1 (by omega)
theorem dsc_succ (L : Lin n lt) {p : Array Nat} {m : Nat} (h : Dsc lt p m) (hm : 1 ≤ m) (e : lt (p.getD m 0) (p.getD (m - 1) 0) = true) : Dsc lt p (m + 1) := fun i j h1 h2 => by
  by_cases hj : j = m
  · subst hj
    by_cases hi : i = j - 1
    · subst hi; exact e
    · exact L.tr _ _ _ e (h i (j - 1) (by omega) (by omega))
  · exact h i j h1 (by omega)

theorem asc_ok (L : Lin n lt) {p : Array Nat} (P : Pm n p) : ∀ (f m : Nat), 1 ≤ m → m + f ≤ n → Asc lt p m → Okk n lt (kas_asc p f m) (fun r => m ≤ r ∧ r ≤ m + f ∧ Asc lt p r ∧ (r < m + f → lt (p.getD r 0) (p.getD (r - 1) 0) = true))
  | 0, m, h1, h2, ha => ⟨Nat.le_refl _, Nat.le_refl _, ha, fun h => by omega⟩
  | f + 1, m, h1, h2, ha => by
    refine ⟨P.bd (by omega), P.bd (by omega), ?_⟩
    cases hc : lt (p.getD m 0) (p.getD (m - 1) 0) with
    | true => exact ⟨Nat.le_refl _, by omega, ha, fun _ => hc⟩
    | false =>
      have e := L.tot _ _ (P.bd (by omega)) (P.bd (by omega)) (fun e => by have := P.inj (i := m) (j := m - 1) (by omega) (by omega) e; omega) hc
      exact okk_mono (fun r ⟨a, b, c, d⟩ => ⟨by omega, by omega, c, fun h => d (by omega)⟩) _ (asc_ok L P f (m + 1) (by omega) (by omega) (asc_succ L ha h1 e))

theorem dsc_ok (L : Lin n lt) {p : Array Nat} (P : Pm n p) : ∀ (f m : Nat), 1 ≤ m → m + f ≤ n → Dsc lt p m → Okk n lt (kas_desc f p m 0) (fun r => r.1 = p ∧ r.2.2 = 0 ∧ m ≤ r.2.1 ∧ r.2.1 ≤ m + f ∧ Dsc lt p r.2.1)
  | 0, m, h1, h2, ha => ⟨rfl, rfl, Nat.le_refl _, Nat.le_refl _, ha⟩
  | f + 1, m, h1, h2, ha => by
    refine ⟨P.bd (by omega), P.bd (by omega), ?_⟩
    cases hc : lt (p.getD m 0) (p.getD (m - 1) 0) with
    | true =>
      exact okk_mono (fun r ⟨a, b, c, d, e⟩ => ⟨a, b, by omega, by omega, e⟩) _ (dsc_ok L P f (m + 1) (by omega) (by omega) (dsc_succ L ha h1 hc))
    | false =>
      have e := L.tot _ _ (P.bd (by omega)) (P.bd (by omega)) (fun e => by have := P.inj (i := m) (j := m - 1) (by omega) (by omega) e; omega) hc
      refine ⟨P.bd (by omega), P.bd (by omega), ?_⟩
      rw [e]
      exact ⟨rfl, rfl, Nat.le_refl _, by show m ≤ _; omega, ha⟩

theorem getD_congr {p q : Array Nat} {i j : Nat} (h : p[i]? = q[j]?) : p.getD i 0 = q.getD j 0 := by
  rw [Array.getD_eq_getD_getElem?, Array.getD_eq_getD_getElem?, h]

theorem rev_asc {p : Array Nat} (P : Pm n p) {m : Nat} (hm : m ≤ n) (h : Dsc lt p m) : Pm n (kas_rev p 0 m) ∧ Asc lt (kas_rev p 0 m) m := by
  refine ⟨(mirror_perm _ _ _ _).trans P, fun i j h1 h2 => ?_⟩
  unfold kas_rev
  have e := fun k => getElem?_mirror_all (i := 0) (j := m) (xs := p) (by rw [P.size]; exact hm) k
  have e1 := getD_congr ((e i).trans (if_pos ⟨by omega, by omega⟩))
  have e2 := getD_congr ((e j).trans (if_pos ⟨by omega, by omega⟩))
  rw [e1, e2]
  exact h _ _ (by omega) (by omega)

theorem count_ok (L : Lin n lt) {p : Array Nat} (P : Pm n p) (hn : 2 ≤ n) : Okk n lt (kas_count n p) (fun r => Pm n r.2 ∧ 1 ≤ r.1 ∧ r.1 ≤ n ∧ Asc lt r.2 r.1) := by
  unfold kas_count
  refine okk_bind _ (okk_mono (fun r ⟨h1, h2, ha, hd⟩ => ?_) _ (asc_ok L P (n - 1) 1 (Nat.le_refl _) (by omega) asc_one))
  by_cases e : r = n
  · rw [if_pos (by simpa using e)]
    exact ⟨P, h1, by omega, ha⟩
  · rw [if_neg (by simpa using e)]
    by_cases h : r > 1
    · rw [if_pos h]
      refine ⟨P.bd (by omega), P.bd (by omega), ?_⟩
      rw [ha 0 (r - 1) (by omega) (by omega)]
      exact ⟨P, h1, by omega, ha⟩
    · rw [if_neg h]
      have er : r = 1 := by omega
      subst er
      have d2 : Dsc lt p 2 := by
        have := dsc_succ (n := n) L (p := p) (m := 1) (fun i j h1 h2 => by omega) (Nat.le_refl _) (hd (by omega))
        exact this
      unfold kas_descPart
      refine okk_bind _ (okk_mono (fun q hq => ?_) _ (dsc_ok L P (n - 2) 2 (by omega) (by omega) d2))
      obtain ⟨p', m, z⟩ := q
      obtain ⟨h1, h2, h3, h4, h5⟩ := hq
      dsimp only at h1 h2 h3 h4 h5 ⊢
      subst h1 h2
      rw [if_neg (Nat.lt_irrefl _)]
      obtain ⟨P', A'⟩ := rev_asc P (m := m) (by omega) h5
      unfold kas_tail3
      refine okk_bind _ (okk_mono (fun r ⟨h1, h2, ha, hd⟩ => ?_) _ (asc_ok L P' (n - m) m (by omega) (by omega) A'))
      exact ⟨P', by show 1 ≤ r; omega, by show r ≤ n; omega, ha⟩

theorem place_ok (L : Lin n lt) {p : Array Nat} (P : Pm n p) {k : Nat} (hk : k < n) (ha : Asc lt p k) : ∀ (f l r : Nat), l ≤ r → r ≤ k → r - l ≤ f → (∀ i, i < l → lt (p.getD i 0) (p.getD k 0) = true) → (∀ i, r ≤ i → i < k → lt (p.getD k 0) (p.getD i 0) = true) →
    Okk n lt (kas_place p k f l r) (fun l' => l' ≤ k ∧ (∀ i, i < l' → lt (p.getD i 0) (p.getD k 0) = true) ∧ ∀ i, l' ≤ i → i < k → lt (p.getD k 0) (p.getD i 0) = true)
  | 0, l, r, h1, h2, h3, h4, h5 => ⟨by omega, h4, fun i hi hk => h5 i (by omega) hk⟩
  | f + 1, l, r, h1, h2, h3, h4, h5 => by
    unfold kas_place
    by_cases h : l ≥ r
    · rw [if_pos h]
      exact ⟨by omega, h4, fun i hi hk => h5 i (by omega) hk⟩
    · rw [if_neg h]
      have hm1 : l ≤ (l + r) / 2 := by omega
      have hm2 : (l + r) / 2 < r := by omega
      generalize (l + r) / 2 = m at hm1 hm2
      refine ⟨P.bd hk, P.bd (by omega), ?_⟩
      cases hc : lt (p.getD k 0) (p.getD m 0) with
      | true =>
        refine place_ok L P hk ha f l m hm1 (by omega) (by omega) h4 fun i h6 h7 => ?_
        by_cases e : i = m
        · subst e; exact hc
        · exact L.tr _ _ _ hc (ha m i (by omega) h7)
      | false =>
        have e := L.tot _ _ (P.bd hk) (P.bd (i := m) (by omega)) (fun e => by have := P.inj hk (j := m) (by omega) e; omega) hc
        refine place_ok L P hk ha f (m + 1) r (by omega) h2 (by omega) (fun i h6 => ?_) h5
        by_cases e' : i = m
        · subst e'; exact e
        · exact L.tr _ _ _ (ha i m (by omega) (by omega)) e

theorem bin_ok (L : Lin n lt) : ∀ (f : Nat) (p : Array Nat) (k : Nat), Pm n p → k + f = n → Asc lt p k → Okk n lt (kas_bin f p k) (fun p' => Pm n p' ∧ Asc lt p' n)
  | 0, p, k, P, h2, ha => ⟨P, (show k = n by omega) ▸ ha⟩
  | f + 1, p, k, P, h2, ha => by
    unfold kas_bin
    refine okk_bind _ (okk_mono (fun l ⟨h1, h4, h5⟩ => ?_) _ (place_ok L P (by omega) ha k 0 k (Nat.zero_le _) (Nat.le_refl _) (by omega) (fun i h => by omega) (fun i h h' => by omega)))
    refine bin_ok L f _ (k + 1) ((bubble_perm _ _ _).trans P) (by omega) fun i j hi hj => ?_
    have e := fun q => getElem?_bubble (xs := p) (src := k) (by rw [P.size]; omega) (k - l) (by omega) q
    have ekl : k - (k - l) = l := by omega
    simp only [ekl] at e
    have ev : ∀ q, q ≤ k → (bubble p k (k - l)).getD q 0 = if q = l then p.getD k 0 else if l < q then p.getD (q - 1) 0 else p.getD q 0 := fun q hq => by
      by_cases c1 : q = l
      · rw [if_pos c1]; exact getD_congr ((e q).trans (if_pos c1))
      · rw [if_neg c1]
        by_cases c2 : l < q
        · rw [if_pos c2]; exact getD_congr (((e q).trans (if_neg c1)).trans (if_pos ⟨c2, hq⟩))
        · rw [if_neg c2]; exact getD_congr (((e q).trans (if_neg c1)).trans (if_neg (by omega)))
    rw [ev i (by omega), ev j (by omega)]
    by_cases c1 : i = l
    · rw [if_pos c1, if_neg (by omega), if_pos (by omega)]
      exact h5 _ (by omega) (by omega)
    · rw [if_neg c1]
      by_cases c2 : j = l
      · rw [if_pos c2, if_neg (by omega)]
        exact h4 _ (by omega)
      · rw [if_neg c2]
        by_cases c3 : l < i
        · rw [if_pos c3, if_pos (by omega)]
          exact ha _ _ (by omega) (by omega)
        · rw [if_neg c3]
          by_cases c4 : l < j
          · rw [if_pos c4]
            exact ha _ _ (by omega) (by omega)
          · rw [if_neg c4]
            exact ha _ _ (by omega) (by omega)

theorem sort_ok (L : Lin n lt) (hn : 2 ≤ n) : Okk n lt (kas_sort n) (fun p => Pm n p ∧ Asc lt p n) := by
  unfold kas_sort
  refine okk_bind _ (okk_mono (fun r ⟨P, h1, h2, ha⟩ => ?_) _ (count_ok L (p := (List.range n).toArray) (Array.Perm.refl _) hn))
  have e : max r.1 1 = r.1 := by omega
  by_cases h : r.1 < n
  · rw [if_pos h, e]
    exact bin_ok L _ _ _ P (by omega) ha
  · rw [if_neg h]
    have : r.1 = n := by omega
    exact ⟨P, this ▸ ha⟩
end

theorem okk_wp {α : Type} {n : Nat} {lt : Nat → Nat → Bool} {cmp : Nat → Nat → (Bool → Shared → Prop) → Shared → Prop} {Q : α → Prop} {Q' : α → Shared → Prop} {s : Shared} (hc : ∀ i j C, i < n → j < n → C (lt i j) s → cmp i j C s)
    (hq : ∀ a, Q a → Q' a s) : ∀ (t : KasT α), Okk n lt t Q → t.kasWp cmp Q' s
  | .ret a, h => hq a h
  | .ask i j k, ⟨h1, h2, h3⟩ => hc i j _ h1 h2 (okk_wp hc hq _ h3)
end Mine
end

section
open PySem PySem.W PyProof.Rows
set_option Elab.async false
set_option maxRecDepth 100000
set_option linter.unusedVariables false
namespace Mine

noncomputable def rowLt : List Int → List Int → Bool
  | [], [] => false
  | [], _ :: _ => true
  | _ :: _, [] => false
  | a :: r, b :: r' => if a = b then rowLt r r' else decide (a < b)

theorem rowLt_trans : ∀ a b c, rowLt a b = true → rowLt b c = true → rowLt a c = true
  | [], [], c, h, _ => by simp [rowLt] at h
  | [], b :: bs, [], _, h => by simp [rowLt] at h
  | [], b :: bs, c :: cs, _, _ => rfl
  | a :: as, [], c, h, _ => by simp [rowLt] at h
  | a :: as, b :: bs, [], _, h => by simp [rowLt] at h
  | a :: as, b :: bs, c :: cs, h, h' => by
    simp only [rowLt] at h h' ⊢
    by_cases e1 : a = b
    · subst e1
      rw [if_pos rfl] at h
      by_cases e2 : a = c
      · subst e2; rw [if_pos rfl] at h' ⊢; exact rowLt_trans as bs cs h h'
      · rw [if_neg e2] at h' ⊢; exact h'
    · rw [if_neg e1] at h
      by_cases e2 : b = c
      · subst e2; rw [if_neg e1]; exact h
      · rw [if_neg e2] at h'
        simp only [decide_eq_true_eq] at h h'
        rw [if_neg (by omega)]
        simp; omega
theorem rowLt_total : ∀ a b, a ≠ b → rowLt a b = false → rowLt b a = true
  | [], [], h, _ => absurd rfl h
  | [], b :: bs, _, h => by simp [rowLt] at h
  | a :: as, [], _, _ => rfl
  | a :: as, b :: bs, hn, h => by
    simp only [rowLt] at h ⊢
    by_cases e1 : a = b
    · subst e1
      rw [if_pos rfl] at h ⊢
      exact rowLt_total as bs (fun e => hn (by rw [e])) h
    · rw [if_neg e1] at h
      rw [if_neg (fun e => e1 e.symm)]
      simp only [decide_eq_false_iff_not] at h
      simp; omega
theorem rowLt_irr : ∀ a, rowLt a a = false
  | [] => rfl
  | a :: as => by simp only [rowLt, if_pos]; exact rowLt_irr as

section
variable {prog : Program} {w : World} {g : Heap} {mg mb : Str → Option Value} {A : Around} {env : Env} {X X' : Addr → Prop} {σ σ' : List (Str × AV)} {E : Value → Shared → Prop} {R : Result → Shared → Prop}

theorem looks_int {M : Model} {h : Heap} {i : Int} {t : Tok} : Looks M h (typeOf (.int i t)) (.type "int") := Looks.now

theorem lex_rows {b : Bool} : ∀ (vs us : List Value) (r r' : List Int) (i : Nat) (s : Shared) (Q : Bool → Shared → Prop), IntsAre vs r → IntsAre us r' → Q (rowLt r r') s → KatLex prog w A b (decide (vs.length < us.length)) Q (vs.zip us) i s
  | [], [], r, r', i, s, Q, h1, h2, hq => by
    cases h1; cases h2
    exact kat_nil (by simpa [rowLt] using hq)
  | [], u :: us, r, r', i, s, Q, h1, h2, hq => by
    cases h1
    obtain ⟨x, y, rfl⟩ : ∃ x y, r' = x :: y := by cases h2; exact ⟨_, _, rfl⟩
    exact kat_nil (by simpa [rowLt] using hq)
  | v :: vs, [], r, r', i, s, Q, h1, h2, hq => by
    cases h2
    obtain ⟨x, y, rfl⟩ : ∃ x y, r = x :: y := by cases h1; exact ⟨_, _, rfl⟩
    exact kat_nil (by simpa [rowLt] using hq)
  | v :: vs, u :: us, r, r', i, s, Q, h1, h2, hq => by
    obtain ⟨x, y, t, rfl, rfl, h1'⟩ : ∃ x y t, r = x :: y ∧ v = .int x t ∧ IntsAre vs y := by cases h1; exact ⟨_, _, _, rfl, rfl, by assumption⟩
    obtain ⟨x', y', t', rfl, rfl, h2'⟩ : ∃ x y t, r' = x :: y ∧ u = .int x t ∧ IntsAre us y := by cases h2; exact ⟨_, _, _, rfl, rfl, by assumption⟩
    have el : decide ((Value.int x t :: vs).length < (Value.int x' t' :: us).length) = decide (vs.length < us.length) := by simp
    rw [List.zip_cons_cons, el]
    refine kat_cons (wpAny_eqBool_int ?_)
    simp only [rowLt] at hq
    by_cases e : x = x'
    · subst e
      rw [if_pos rfl] at hq
      rw [show (x == x) = true by simp]
      exact kat_yes (lex_rows vs us y y' (i + 1) s Q h1' h2' hq)
    · rw [if_neg e] at hq
      rw [show (x == x') = false by simpa using e]
      refine kat_no ?_
      cases hb : b && i == 0 with
      | true => exact oneLt_int hq
      | false => exact kat_one _ _ (PyProof.Rows.lt_int hq)

theorem ask_rows {x y : Addr} {r r' : List Int} {s : Shared} {b : Bool} {Q : Bool → Shared → Prop} (hx : IsRow s.heap x r) (hy : IsRow s.heap y r') (hq : Q (rowLt r r') s) : wpAny (model prog w) A (keyLt' (tuples' b) (.ref x) (.ref y)) Q E s := by
  obtain ⟨vs, n, ho, hi⟩ := hx
  obtain ⟨us, m, ho', hi'⟩ := hy
  refine kat_lt ho rfl ho' rfl ?_
  have := lex_rows (prog := prog) (w := w) (A := A) (b := b) vs.toList us.toList r r' 0 s Q hi hi' hq
  simpa using this

/-- list.sort upon a list whose asking changes nothing -/
theorem list_sort_any {s : Shared} {a : Addr} {vs : List Value} {n : Nat} {P : PySem.Fin → Shared → Prop} {Good : Array Nat → Prop} (ho : s.heap.get? a = some (seqObj "list" vs.toArray n)) (h64 : vs.length < 64)
    (ask : ∀ s', KeepsX (· = a) s s' → 2 ≤ vs.length → wpAny (model prog w) A (keyKind' vs.toArray) (fun κ s'' => s'' = s' ∧ (kas_sort vs.length).kasWp (kas_ask prog w A κ vs) (fun p s3 => s3 = s'' ∧ Good p) s'') (fun _ _ => False) s')
    (hone : vs.length < 2 → Good (List.range vs.length).toArray) (hgz : ∀ p, Good p → p.size = vs.length)
    (hP : ∀ p s' c, Good p → KeepsX (· = a) s s' → s'.heap.get? a = some (seqObj "list" (p.toList.map fun i => vs.getD i .none).toArray c) → P (.done (.ret .none)) s') :
    wpAny (model prog w) A (Builtin.«list.sort» ⟨[.ref a], []⟩) P E s := by
  have ha : a < s.heap.objs.size := Heap.lt_size ho
  have s1 := Heap.SameBut.update s.heap a (Obj.mapSeq fun _ => (#[] : Array Value))
  obtain ⟨e1, ho1⟩ : ∃ e1, (s.heap.update a (Obj.mapSeq fun _ => (#[] : Array Value))).get? a = some (seqObj "list" #[] e1) := ⟨_, get?_update_seq ho fun _ => #[]⟩
  rw [list_sort_plain]
  refine wpAny_bind (listItems_at ho rfl ?_)
  refine wpAny_bind (listUpdate_at ho rfl ?_ (by rw [List.size_toArray, sizeLine_eq]; omega) (Nat.zero_le _))
  refine wpAny_bind (seqEpoch_at ho1 rfl ?_)
  refine wpAny_bind (wpAny_newTuple ?_ (by show vs.length ≤ _; rw [sizeLine_eq]; omega))
  refine wpAny_bind (wpAny_newList ?_ (Nat.zero_le _))
  refine wpAny_holding ?_
  generalize hH : ((s.heap.update a (Obj.mapSeq fun _ => (#[] : Array Value))).push (seqObj "tuple" vs.toArray 0)).push (seqObj "list" #[] 0) = H
  have na : H.get? a = some (seqObj "list" #[] e1) := hH ▸ Heap.get?_push_of_some _ (Heap.get?_push_of_some _ ho1)
  have kH : KeepsX (· = a) s { s with heap := H } := ⟨H, s.toks, rfl, fun b o hb e => hH ▸ Heap.get?_push_of_some _ (Heap.get?_push_of_some _ (s1.extBut b o hb e))⟩
  show wpAny (model prog w) A _ P E { s with heap := H }
  dsimp only
  have fin : ∀ (st' : SortSt) (p : Array Nat), Good p → arrOf st' = p.map (kas_item (vs.toArray.zip vs.toArray)) → failedOf st' = none →
      wpAny (model prog w) A (do
        let sorted := (arrOf st').map (·.2)
        let touched := (← seqEpoch a) != e1
        Builtin.List.listUpdate (.ref a) fun _ => sorted
        if let some e := failedOf st' then rule "list.sort.comparison-raised"; throw e
        if touched then rule "list.sort.modified"; raiseError "ValueError" "list modified during sort"
        ret .none) P E { s with heap := H } := by
    intro st' p hg har hf
    have hout := kat_snds (vs := vs) (ks := vs) rfl har
    have hsz : (List.toArray (p.toList.map fun i => vs.getD i Value.none)).size = vs.length := by rw [List.size_toArray, List.length_map, Array.length_toList, hgz p hg]
    simp only [hout]
    have s2 := Heap.SameBut.update H a (Obj.mapSeq fun _ => List.toArray (p.toList.map fun i => vs.getD i Value.none))
    obtain ⟨c2, hc2⟩ : ∃ c2, (H.update a (Obj.mapSeq fun _ => List.toArray (p.toList.map fun i => vs.getD i Value.none))).get? a = some (seqObj "list" (List.toArray (p.toList.map fun i => vs.getD i Value.none)) c2) := ⟨_, get?_update_seq na fun _ => List.toArray (p.toList.map fun i => vs.getD i Value.none)⟩
    refine wpAny_bind (seqEpoch_at na rfl ?_)
    refine wpAny_bind (listUpdate_at na rfl ?_ (Nat.zero_le _) (Nat.le_trans (Nat.le_of_eq hsz) (by rw [sizeLine_eq]; omega)))
    rw [hf]
    simp only [bne_self_eq_false, Bool.false_eq_true, if_false]
    exact wpAny_pure (hP p _ c2 hg (kH.trans ⟨_, s.toks, rfl, fun b o hb e => s2.extBut b o hb e⟩) hc2)
  by_cases hn2 : vs.length < 2
  · have hn2' : vs.toArray.size < 2 := by rw [List.size_toArray]; exact hn2
    rw [if_pos hn2', if_pos hn2']
    refine wpAny_bind (wpAny_pure ?_)
    rw [StateT.run_pure]
    refine wpAny_bind (wpAny_pure ?_)
    refine fin _ _ (hone hn2) ?_ rfl
    have e := kas_range (vs.toArray.zip vs.toArray)
    rw [show (vs.toArray.zip vs.toArray).size = vs.length by simp] at e
    exact e.symm
  · have hn2' : ¬ vs.toArray.size < 2 := by rw [List.size_toArray]; exact hn2
    rw [if_neg hn2', if_neg hn2']
    refine wpAny_bind (wpAny_mono (ask _ kH (by omega)) (fun κ s0 hk => ?_) fun _ _ x => x.elim)
    obtain ⟨e0, hk⟩ := hk
    subst e0
    refine wpAny_bind (wpAny_mono (kat_run (Q := fun st' s' => s' = { s with heap := H } ∧ ∃ p : Array Nat, Good p ∧ arrOf st' = p.map (kas_item (vs.toArray.zip vs.toArray)) ∧ failedOf st' = none)
      rfl (by omega) h64 (fun p' st' s' a1 a2 a3 ⟨a4, a5⟩ => ⟨a4, p', a5, a2, a3⟩) hk) ?_ fun _ _ e => e)
    rintro ⟨⟨⟩, st'⟩ s' ⟨es, p, hg, har, hf⟩
    subst es
    exact fin st' p hg har hf

/-- the sort's outcome for rows -/
noncomputable def Sorted (l : List (List Int)) : Prop := l.Pairwise fun a b => rowLt a b = true

theorem rows_kind {s : Shared} {vs : List Value} {l : List (List Int)} {Q : SortKind → Shared → Prop} (q : RelL X s.heap (l.map row) vs) (hne : ∀ r ∈ l, r ≠ []) (h2 : 2 ≤ vs.length) (h : Q (tuples' true) s) :
    wpAny (model prog w) A (keyKind' vs.toArray) Q E s := by
  have : ∃ fs, KatTups s.heap vs fs ∧ fs.length = vs.length ∧ ∀ v ∈ fs, ∃ i t, v = .int i t := by
    have go : ∀ (l : List (List Int)) (vs : List Value), RelL X s.heap (l.map row) vs → (∀ r ∈ l, r ≠ []) → ∃ fs, KatTups s.heap vs fs ∧ fs.length = vs.length ∧ ∀ v ∈ fs, ∃ i t, v = .int i t := by
      intro l
      induction l with
      | nil =>
        intro vs q _
        cases vs with
        | nil => exact ⟨[], .nil, rfl, fun _ h => nomatch h⟩
        | cons _ _ => simp only [List.map_nil, RelL] at q
      | cons r l ih =>
        intro vs q hne
        cases vs with
        | nil => simp only [List.map_cons, RelL] at q
        | cons v vs =>
          simp only [List.map_cons, RelL] at q
          obtain ⟨fs, h1, h2, h3⟩ := ih vs q.2 fun r hr => hne r (List.mem_cons_of_mem _ hr)
          obtain ⟨b, rfl, _, us, n, ho, hi⟩ := rel_row.mp q.1
          have hr := hne r List.mem_cons_self
          obtain ⟨x, y, t, u, e1, e2⟩ : ∃ x y t u, r = x :: y ∧ us.toList = .int x t :: u := by
            cases hi' : us.toList with
            | nil => rw [hi'] at hi; cases hi; exact absurd rfl hr
            | cons z zs => rw [hi'] at hi; cases hi; exact ⟨_, _, _, _, rfl, rfl⟩
          refine ⟨.int x t :: fs, .cons ho rfl rfl ?_ h1, by simp [h2], fun v hv => ?_⟩
          · rw [← Array.getElem?_toList, e2]; rfl
          · rcases List.mem_cons.mp hv with rfl | hv
            · exact ⟨_, _, rfl⟩
            · exact h3 v hv
    exact go l vs q hne
  obtain ⟨fs, h1, h3, h4⟩ := this
  have := kat_kind (M := model prog w) (A := A) (E := E) (T := .type "int") (Q := Q) h1 (by omega) (fun v hv => by obtain ⟨i, t, rfl⟩ := h4 v hv; exact looks_int) (by decide) (by rw [show (Value.type "int" != Value.type "tuple") = true by decide]; exact h)
  exact this

theorem sort_rows {s : Shared} {a : Addr} {vs : List Value} {l : List (List Int)} {n : Nat} {P : PySem.Fin → Shared → Prop} (ha : X a) (ho : s.heap.get? a = some (seqObj "list" vs.toArray n)) (q : RelL X s.heap (l.map row) vs) (hne : ∀ r ∈ l, r ≠ []) (hnd : l.Nodup) (h64 : l.length < 64)
    (hP : ∀ (l' : List (List Int)) us s' c, l'.Perm l → Sorted l' → KeepsX (· = a) s s' → s'.heap.get? a = some (seqObj "list" (List.toArray us) c) → RelL X s'.heap (l'.map row) us → P (.done (.ret .none)) s') :
    wpAny (model prog w) A (Builtin.«list.sort» ⟨[.ref a], []⟩) P E s := by
  have hl : l.length = vs.length := by have := relL_length q; simpa using this
  let lt : Nat → Nat → Bool := fun i j => rowLt (l.getD i []) (l.getD j [])
  have L : Lin vs.length lt := ⟨fun i j k h h' => rowLt_trans _ _ _ h h', fun i j hi hj hij h => rowLt_total _ _ (fun e => hij ?_) h⟩
  rotate_left
  · have e1 : l[i]? = some (l.getD i []) := by simp [hl ▸ hi]
    have e2 : l[j]? = some (l.getD j []) := by simp [hl ▸ hj]
    exact (List.getElem?_inj (List.getElem?_eq_some_iff.mp e1).1 hnd).mp (by rw [e1, e2, e])
  refine list_sort_any (Good := fun p => Pm vs.length p ∧ Asc lt p vs.length) ho (hl ▸ h64) (fun s' k h2 => ?_) (fun h => ⟨Array.Perm.refl _, fun i j h1 h2 => by omega⟩) (fun p h => h.1.size) (fun p s' c hg k hc => ?_)
  · have q' : RelL X s'.heap (l.map row) vs := q.move (k.kp.mono fun b hb => hb ▸ ha).move
    refine rows_kind q' hne h2 ⟨rfl, ?_⟩
    refine okk_wp (n := vs.length) (lt := lt) (Q := fun p => Pm vs.length p ∧ Asc lt p vs.length) (fun i j C hi hj hC => ?_) (fun p hp => ⟨rfl, hp⟩) _ (sort_ok L h2)
    obtain ⟨b, r, e1, e2, _, hr⟩ := rows_at q' hi
    obtain ⟨b', r', e3, e4, _, hr'⟩ := rows_at q' hj
    show wpAny _ _ (keyLt' (tuples' true) (vs.getD i Value.none) (vs.getD j Value.none)) _ _ _
    have g1 : vs.getD i Value.none = .ref b := by simp [hi, e1]
    have g2 : vs.getD j Value.none = .ref b' := by simp [hj, e3]
    rw [g1, g2]
    refine ask_rows hr hr' ?_
    have g3 : l.getD i [] = r := by simp [List.getD, e2]
    have g4 : l.getD j [] = r' := by simp [List.getD, e4]
    show C (rowLt r r') s'
    rw [← g3, ← g4]; exact hC
  · obtain ⟨hp, hasc⟩ := hg
    have hpl : p.toList.Perm (List.range vs.length) := by simpa using hp.toList
    have hmap : ∀ {α : Type} (m : List α) (z : α), m.length = vs.length → ((List.range vs.length).map fun i => m.getD i z) = m := fun m z hm => by
      apply List.ext_getElem?
      intro i
      rw [List.getElem?_map]
      by_cases hi : i < vs.length
      · simp [hi, hm ▸ hi]
      · rw [List.getElem?_eq_none (by simpa using hi), List.getElem?_eq_none (by omega)]; rfl
    have k' : KpX X s.heap s'.heap := k.kp.mono fun b hb => hb ▸ ha
    refine hP (p.toList.map fun i => l.getD i []) (p.toList.map fun i => vs.getD i .none) s' c ?_ ?_ k hc ?_
    · have := hpl.map fun i => l.getD i []
      rw [hmap l [] hl] at this
      exact this
    · unfold Sorted
      rw [List.pairwise_map, List.pairwise_iff_getElem]
      intro i j hi hj hij
      have hz := hp.size
      have := hasc i j hij (by simpa [hz] using hj)
      have g1 : p.getD i 0 = p.toList[i] := by
        have : i < p.size := by simpa using hi
        simp [Array.getD, this]
      have g2 : p.getD j 0 = p.toList[j] := by
        have : j < p.size := by simpa using hj
        simp [Array.getD, this]
      rw [g1, g2] at this
      exact this
    · refine relL_of (by simp) fun i av v h1 h2 => ?_
      rw [List.getElem?_map, List.getElem?_map] at h1
      rw [List.getElem?_map] at h2
      cases hpi : p.toList[i]? with
      | none => rw [hpi] at h2; simp at h2
      | some j =>
        rw [hpi] at h1 h2
        simp only [Option.map_some, Option.some.injEq] at h1 h2
        have hj : j < vs.length := by have := (hpl.mem_iff (a := j)).mp (List.mem_of_getElem? hpi); simpa using this
        obtain ⟨b, r, e1, e2, hb, hr⟩ := rows_at q hj
        have g1 : vs.getD j Value.none = .ref b := by simp [hj, e1]
        have g3 : l.getD j [] = r := by simp [List.getD, e2]
        rw [← h1, ← h2, g1, g3]
        exact (rel_row.mpr ⟨b, rfl, hb, hr⟩ : Rel X s.heap (row r) (.ref b)).move k'.move
end
end Mine
end

section
open PySem PySem.W PyProof.Rows
set_option Elab.async false
set_option maxRecDepth 100000
set_option linter.unusedVariables false
namespace Mine

noncomputable def DK (h : Heap) (d : Addr) (es : Array DictEntry) (ep : Nat) : Prop := h.get? d = some { cls := .type "dict", data := .dict es ep }

section
variable {prog : Program} {w : World} {g : Heap} {mg mb : Str → Option Value} {A : Around} {env : Env} {X X' : Addr → Prop} {σ σ' : List (Str × AV)} {E : Value → Shared → Prop} {R : Result → Shared → Prop}
variable {d it : Addr} {es : Array DictEntry} {ep : Nat} {s : Shared}

theorem iter_dk {Q : Value → Shared → Prop} (hd : (d == sysModules) = false) (hm : DK s.heap d es ep)
    (hQ : Q (.ref s.heap.objs.size) { s with heap := s.heap.push { cls := .type "dict_keyiterator", data := .fields #[.ref d, .int 0 0, .int es.size 0, .int ep 0] } }) : wpAny (model prog w) A (pyIter (.ref d)) Q E s := by
  have hT : s.TypeIs (.ref d) "dict" := ⟨_, hm, rfl⟩
  refine wpAny_pyIter_slot hT PySem.F.slot_dict_iter (wpAny_call_entry PySem.F.slot_dict_iter hT PySem.F.entry_dict_iter ?_ (PySem.F.args_dict_iter_1 _))
  unfold Builtin.«dict.__iter__» Builtin.Dict.dictSlotNone
  refine wpAny_bind (wpAny_bind (wpAny_notOrdered_dict hT ?_))
  show wpAny _ _ (pure (Value.ref d)) _ _ s
  refine wpAny_pure ?_
  show wpAny _ _ (Builtin.Dict.showsAll d >>= _) _ _ s
  unfold Builtin.Dict.showsAll
  rw [if_neg (by rw [hd]; exact Bool.false_ne_true)]
  refine wpAny_bind (wpAny_pure (wpAny_bind (wpAny_dictEntries hm rfl (wpAny_bind (wpAny_dictEpoch hm rfl ?_)))))
  exact wpAny_bind (wpAny_newObj_type (wpAny_pure ⟨_, rfl, "dict_keyiterator", _, ⟨_, Heap.get?_push_size _ rfl, rfl⟩, PySem.F.slot_dict_keyiterator_next.lookup, by simpa [rawInt] using hQ⟩))

theorem next_dk {i : Nat} {Q : Option Value → Shared → Prop} (hh : A.handled = none) (hit : s.heap.IsKeyIter it d i es.size ep) (hm : DK s.heap d es ep)
    (h1 : ∀ e h', es[i]? = some e → h'.IsKeyIter it d (i + 1) es.size ep → Heap.SameBut it s.heap h' → Q (some e.key) { s with heap := h' })
    (h2 : ∀ h', es[i]? = none → Heap.ExtBut it s.heap h' → Q none { s with heap := h' }) : wpAny (model prog w) A (pyNext (.ref it)) Q E s := by
  obtain ⟨o, ho, hc, hd⟩ := id hit
  have hT := hit.typeIs
  have hown : Builtin.Dict_items.ownsTuple "dict_keyiterator" = false := by decide
  have name : ∀ (s : Shared) (hT : s.TypeIs (.ref it) "dict_keyiterator") (Q' : String → Shared → Prop), Q' "dict_keyiterator" s → wpAny (model prog w) A.in1 (typeNameOfWhole (.ref it)) Q' E s := fun s hT Q' h => wpAny_typeNameOfWhole_keyiter hT h
  unfold pyNext
  refine wpAny_bind (wpAny_attempt (wpAny_callSpecial?_slot (name := Str.ofString "__next__") hT PySem.F.slot_dict_keyiterator_next
    (wpAny_call_entry PySem.F.slot_dict_keyiterator_next hT PySem.F.entry_dict_keyiterator_next ?_ (PySem.F.args_dict_keyiterator_next_1 _))))
  refine wpAny_bind (wpAny_pure (wpAny_bind (wpAny_bind ?_)))
  first | refine wpAny_bind (wpAny_typeNameOfWhole_keyiter hT (wpAny_pure ?_)) | refine wpAny_bind (wpAny_typeNameOf_keyiter hT (wpAny_pure ?_))
  refine wpAny_bind (wpAny_fieldsOf ho hd ?_)
  simp only [hown, Bool.false_eq_true, if_false]
  show wpAny _ _ (if (Value.ref d == Value.none) = true then _ else _) _ _ s
  rw [if_neg (show ¬ ((Value.ref d == Value.none) = true) from Bool.false_ne_true)]
  refine wpAny_bind (wpAny_pure (wpAny_bind (wpAny_dictEntries hm rfl ?_)))
  rw [if_neg (by simp)]
  refine wpAny_bind (wpAny_pure (wpAny_bind (wpAny_dictEpoch hm rfl ?_)))
  rw [if_neg (by simp)]
  refine wpAny_pure ?_
  by_cases hlt : i < es.size
  · simp only [show ¬ ((i : Int) < 0) from by omega, if_false, Int.toNat_natCast, Array.getElem?_eq_getElem hlt]
    refine wpAny_bind ?_
    first | refine wpAny_bind (wpAny_typeNameOfWhole_keyiter hT (wpAny_pure ?_)) | refine wpAny_bind (wpAny_typeNameOf_keyiter hT (wpAny_pure ?_))
    refine wpAny_bind (wpAny_isOneOf_keyiter hT ?_)
    show wpAny _ _ (setField (.ref it) 1 (rawInt ((i : Int) + 1)) >>= _) _ _ s
    refine wpAny_bind (wpAny_setField ho hd (by simp) ?_)
    have hit' : (s.heap.update it (Obj.mapFields (·.setIfInBounds 1 (rawInt ((i : Int) + 1))))).IsKeyIter it d (i + 1) es.size ep :=
      ⟨_, Heap.get?_update_self _ ho (Obj.isFreed_of_fields (Obj.data_mapFields hd _)), (Obj.cls_mapFields ..).trans hc, by rw [Obj.data_mapFields hd]; simp [rawInt]⟩
    refine wpAny_bind (wpAny_holding (wpAny_bind (wpAny_isOneOf_keyiter (s := { s with heap := s.heap.update it (Obj.mapFields (·.setIfInBounds 1 (rawInt ((i : Int) + 1)))) }) hit'.typeIs ?_)))
    show wpAny _ _ (pure es[i].key) _ _ _
    exact wpAny_pure (wpAny_pure ⟨_, rfl, wpAny_pure (h1 es[i] _ (by simp [hlt]) hit' (Heap.SameBut.update ..))⟩)
  · have hge : es.size ≤ i := Nat.le_of_not_lt hlt
    simp only [show ¬ ((i : Int) < 0) from by omega, if_false, Int.toNat_natCast, Array.getElem?_eq_none hge]
    refine wpAny_bind ?_
    first | refine wpAny_bind (wpAny_typeNameOfWhole_keyiter hT (wpAny_pure ?_)) | refine wpAny_bind (wpAny_typeNameOf_keyiter hT (wpAny_pure ?_))
    show wpAny _ _ (setField (.ref it) 0 .none >>= _) _ _ s
    refine wpAny_bind (wpAny_setField ho hd (by simp) ?_)
    show wpAny _ _ (newExc (.type "StopIteration") [] >>= _) _ _ _
    refine wpAny_bind ?_
    simp only [newExc, newTuple]
    refine wpAny_bind (wpAny_newObj_type ?_ (by size_fits))
    refine wpAny_bind (m := firstArgMember _ _) (wpAny_of_eq (a := Value.none) (by first | rfl | (simp only [firstArgMember]; rfl)) ?_)
    refine wpAny_newObj_type ?_ (by size_fits)
    simp only [raiseNew]
    refine wpAny_bind (wpAny_handled ?_)
    rw [show A.in1.handled = none from hh]
    refine wpAny_bind (wpAny_pure (wpAny_throw ?_))
    refine wpAny_bind (wpAny_isInstance (T := "StopIteration") (b := true) ⟨_, Heap.get?_push_size _ rfl, rfl⟩ isSubtype_stop ?_)
    exact wpAny_pure (h2 _ (Array.getElem?_eq_none hge) (((Heap.SameBut.update ..).extBut.push _).push _))

theorem walks_dk (hh : A.handled = none) (I d : Addr) (hne : d ≠ I) (es : Array DictEntry) (ep : Nat) :
    Walks prog w A I [I, d] [I] es.size (fun i v => ∃ e, es[i]? = some e ∧ v = e.key) (fun i h => h.IsKeyIter I d i es.size ep ∧ DK h d es ep) where
  sub := fun b hb => by simp at hb; simp [hb]
  frame := fun _ _ _ st hk => ⟨st.1.at fun o e => hk I (by simp) o e, hk d (by simp) _ st.2⟩
  item := fun i s Q E hi st hQ => next_dk hh st.1 st.2 (fun e h' he hit' hs' => hQ _ h' s.toks ⟨e, he, rfl⟩ ⟨hit', hs'.extBut _ _ hne st.2⟩ fun b o hb e => hs'.extBut b o (fun h => hb (by simp [h])) e)
    fun h' he _ => by rw [Array.getElem?_eq_getElem hi] at he; cases he
  done := fun s Q E st hQ => next_dk hh st.1 st.2 (fun e h' he _ _ => by rw [Array.getElem?_eq_none (Nat.le_refl _)] at he; cases he) fun h' _ he' => hQ h' s.toks fun b o hb e => he' b o (fun h => hb (by simp [h])) e
  self := fun _ _ _ _ st hQ => wpAny_pyIter_keyiter st.1 hQ

theorem kdl_dk (lo : (d == sysModules) = false) : KdlSrc prog w "dict" d d es.size (fun i v => ∃ e, es[i]? = some e ∧ v = e.key) (fun h => DK h d es ep) where
  type := fun _ hm => ⟨_, hm, rfl⟩
  there := fun _ hm => ⟨Heap.lt_size hm, Heap.lt_size hm⟩
  keep := fun _ _ hm hk => hk d (.inl rfl) _ hm
  notList := by decide
  notTuple := by decide
  hint := fun _ _ _ _ hm hq => kdl_hint_dict ⟨_, hm, rfl⟩ hq
  iter := fun _ _ hh hm => ⟨_, _, (fun _ _ hq => iter_dk lo hm hq), walks_dk hh _ d (Nat.ne_of_lt (Heap.lt_size hm)) es ep, ⟨⟨_, Heap.get?_push_size _ rfl, rfl, rfl⟩, Heap.get?_push_of_some _ hm⟩⟩

/-- sorted(a dict of rows) -/
theorem cl_sorted {l l' : List (List Int)} {k} (hA : Room (k + 1) A) (h64 : l.length < 64) (hne : ∀ r ∈ l, r ≠ []) (huniq : ∀ m : List (List Int), m.Perm l → Sorted m → m = l') : Cl prog w g A X (.builtin "sorted") [.rows l] (.list (l'.map row)) := fun s vs kg hX r => by
  match vs, r with
  | [v], r =>
    simp only [RelL, Rel] at r
    obtain ⟨⟨d, xs, rfl, hd, hs, hx, rfl⟩, _⟩ := r
    obtain ⟨es, ep, ho, he, hr, hnd⟩ := hx
    have hsz : es.size = xs.length := by rw [← Array.length_toList, he, List.length_map]
    have hlt : xs.length < 64 := by simpa using h64
    refine Calls.call_function_entry kind_sorted plain_sorted entry_sorted (args_sorted1 _) ?_
    unfold Builtin.«sorted»
    refine wpAny_bind (m := checkCount "sorted" 1 1 _) (wpAny_pure ?_)
    refine wpAny_bind (kdu_collect (A := A.in1) (kdl_dk (es := es) (ep := ep) (by simpa using hs)) hA.hh ho (by rw [sizeLine_eq]; omega) fun h' tk acc hk hI => ?_)
    have k1 : Keeps s { s with heap := h', toks := tk } := ⟨h', tk, rfl, hk⟩
    have hlen : acc.toList.length = xs.length := by rw [Array.length_toList, hI.1, hsz]
    have q1 : RelL X h' ((xs.map (·.1)).map row) acc.toList := by
      refine relL_of (by rw [hlen]; simp) fun i av v h1 h2 => ?_
      rw [List.getElem?_map, List.getElem?_map] at h1
      obtain ⟨e, h3, rfl⟩ := hI.2 i v (by simpa using h2)
      rw [← Array.getElem?_toList, he, List.getElem?_map] at h3
      cases hxi : xs[i]? with
      | none => rw [hxi] at h3; cases h3
      | some x =>
        rw [hxi] at h1 h3
        simp only [Option.map_some, Option.some.injEq] at h1 h3
        subst h1 h3
        obtain ⟨p1, p2⟩ := hr x (List.mem_of_getElem? hxi)
        exact rel_row.mpr ⟨_, rfl, p1, p2.move fun o e => hk _ o e⟩
    refine wpAny_bind (wpAny_newList ?_ (by rw [sizeLine_eq, hlen]; omega))
    have k2 : Keeps s { s with heap := h'.push { cls := .type "list", data := .seq acc.toList.toArray }, toks := tk } := keeps_trans k1 (keeps_push _ _)
    have hoL : (h'.push { cls := .type "list", data := .seq acc.toList.toArray }).get? h'.objs.size = some (seqObj "list" acc.toList.toArray 0) := Heap.get?_push_size _ rfl
    have fresh : h'.get? h'.objs.size = none := Heap.get?_none_of_le (Nat.le_refl _)
    have fresh0 : s.heap.get? h'.objs.size = none := none_of hk fresh
    have M : Move X h' (fun b => X b ∨ b = h'.objs.size) (h'.push { cls := .type "list", data := .seq acc.toList.toArray }) := fun b o hb e => ⟨fun q => q.elim hb fun q => Nat.ne_of_lt (Heap.lt_size e) q, Heap.get?_push_of_some _ e⟩
    refine wpAny_bind (wpAny_holding (wpAny_call_entry slot_list_sort ⟨_, hoL, rfl⟩ entry_list_sort (sort_rows (X := fun b => X b ∨ b = h'.objs.size) (.inr rfl) hoL (q1.move M) (by simpa using hne) hnd (by simpa using hlt) fun l₂ us s' c hp hsort k3 hc q3 => ?_) (args_list_sort _)))
    have e := huniq l₂ hp hsort
    subst e
    refine ⟨_, rfl, wpAny_pure ⟨_, rfl, ?_, ?_⟩⟩
    · obtain ⟨h₃, t₃, rfl, q⟩ := k3
      exact ⟨h₃, t₃, rfl, fun b o e => q b o (fun z => by rw [z, fresh0] at e; cases e) (keeps_kp k2 b o e)⟩
    · simp only [Rel]
      refine ⟨_, us, c, rfl, fun q => ?_, hc, q3.move (Move.less fun b hb => .inl hb)⟩
      obtain ⟨o, ho⟩ := (hX _ q).1
      rw [fresh0] at ho; cases ho
  | [], r => simp only [RelL] at r
  | _ :: _ :: _, r => simp only [RelL] at r; exact r.2.elim
end
end Mine
end

section
open PySem PySem.W PyProof.Rows
set_option Elab.async false
set_option maxRecDepth 100000
set_option linter.unusedVariables false
namespace Mine

/- plain: sorted rows -/
noncomputable def ins (r : List Int) : List (List Int) → List (List Int)
  | [] => [r]
  | x :: l => if rowLt r x = true then r :: x :: l else if r = x then x :: l else x :: ins r l
noncomputable def setOf (l : List (List Int)) : List (List Int) := l.foldr ins []

theorem mem_ins {r x : List Int} : ∀ {l : List (List Int)}, x ∈ ins r l ↔ x = r ∨ x ∈ l
  | [] => by simp [ins]
  | y :: l => by
    unfold ins
    split
    · simp
    · split
      · rename_i h; subst h; simp
      · simp only [List.mem_cons, mem_ins]
        constructor
        · rintro (h | h | h)
          · exact .inr (.inl h)
          · exact .inl h
          · exact .inr (.inr h)
        · rintro (h | h | h)
          · exact .inr (.inl h)
          · exact .inl h
          · exact .inr (.inr h)
theorem mem_setOf {x : List Int} {l : List (List Int)} : x ∈ setOf l ↔ x ∈ l := by
  induction l with
  | nil => simp [setOf]
  | cons y l ih => show x ∈ ins y (setOf l) ↔ _; rw [mem_ins, ih, List.mem_cons]
theorem ins_sorted {r : List Int} : ∀ {l : List (List Int)}, Sorted l → Sorted (ins r l)
  | [], _ => List.pairwise_singleton _ _
  | x :: l, h => by
    have h' := List.pairwise_cons.mp h
    unfold ins
    split
    · rename_i hr
      refine List.pairwise_cons.mpr ⟨fun y hy => ?_, h⟩
      rcases List.mem_cons.mp hy with rfl | hy
      · exact hr
      · exact rowLt_trans _ _ _ hr (h'.1 y hy)
    · split
      · exact h
      · rename_i h1 h2
        refine List.pairwise_cons.mpr ⟨fun y hy => ?_, ins_sorted h'.2⟩
        rcases mem_ins.mp hy with rfl | hy
        · exact rowLt_total _ _ h2 (by simpa using h1)
        · exact h'.1 y hy
theorem setOf_sorted (l : List (List Int)) : Sorted (setOf l) := by
  induction l with
  | nil => exact List.Pairwise.nil
  | cons y l ih => exact ins_sorted ih
theorem sorted_ext : ∀ {a b : List (List Int)}, Sorted a → Sorted b → (∀ x, x ∈ a ↔ x ∈ b) → a = b
  | [], [], _, _, _ => rfl
  | [], y :: b, _, _, h => by have := (h y).mpr List.mem_cons_self; cases this
  | x :: a, [], _, _, h => by have := (h x).mp List.mem_cons_self; cases this
  | x :: a, y :: b, ha, hb, h => by
    have ha' := List.pairwise_cons.mp ha
    have hb' := List.pairwise_cons.mp hb
    have e : x = y := by
      rcases List.mem_cons.mp ((h x).mp List.mem_cons_self) with e | hx
      · exact e
      · rcases List.mem_cons.mp ((h y).mpr List.mem_cons_self) with e | hy
        · exact e.symm
        · have := rowLt_trans _ _ _ (ha'.1 y hy) (hb'.1 x hx)
          rw [rowLt_irr] at this; cases this
    subst e
    have irr : ∀ {l : List (List Int)}, (∀ z ∈ l, rowLt x z = true) → x ∉ l := fun hl hx => by have := hl x hx; rw [rowLt_irr] at this; cases this
    refine congrArg _ (sorted_ext ha'.2 hb'.2 fun z => ?_)
    have hz := h z
    rw [List.mem_cons, List.mem_cons] at hz
    constructor
    · intro q
      rcases hz.mp (.inr q) with e | q'
      · subst e; exact (irr ha'.1 q).elim
      · exact q'
    · intro q
      rcases hz.mpr (.inr q) with e | q'
      · subst e; exact (irr hb'.1 q).elim
      · exact q'
theorem sorted_nodup {l : List (List Int)} (h : Sorted l) : l.Nodup := List.Pairwise.imp (fun {a b} hab e => by subst e; rw [rowLt_irr] at hab; cases hab) h
theorem sorted_uniq {l m : List (List Int)} (hp : m.Perm (firsts l)) (hs : Sorted m) : m = setOf l := sorted_ext hs (setOf_sorted l) fun x => by rw [hp.mem_iff, mem_firsts, mem_setOf]

section
variable {prog : Program} {w : World} {g : Heap} {mg mb : Str → Option Value} {A : Around} {env : Env} {X X' : Addr → Prop} {σ σ' : List (Str × AV)} {E : Value → Shared → Prop} {R : Result → Shared → Prop}

theorem ev_cell' {x : Str} {pos : Pos} {r : AV} (H : Fm g env X) (hv : σ.lookup x = some r) (hk : env.kindOf x = some .cell) (hc : (env.cells.lookup x).isSome = true) (hd : (x == ("__debug__" : Str)) = false) :
    Ev prog w g A env X σ (.Name x pos) r := let ⟨_, hc⟩ := Option.isSome_iff_exists.mp hc; ev_cell H hv hk hc hd
theorem asg_nm {scope : Scope} {C : Addr} {Y : Addr → Prop} {x : Str} {p : Pos} {a : AV} (H : Fm g (envC scope env C) Y) (hk : scope.names.lookup x = some .local) :
    Asg prog w g A (envC scope env C) Y (OwnC scope C) (.Name x p) a σ ((x, a) :: σ) := by
  have hk' : (envC scope env C).kindOf x = some .local := lookup_relabel_local hk
  refine asg_name H (.inl hk') fun b hb => ?_
  rcases hb with ⟨_, e⟩ | ⟨e, _⟩
  · exact .inl e
  · rw [hk'] at e; cases e
theorem asg_cl {scope : Scope} {C : Addr} {Y : Addr → Prop} {x : Str} {p : Pos} {a : AV} (H : Fm g (envC scope env C) Y) (hk : (envC scope env C).kindOf x = some .cell) (hc : ((cellsFrom (C + 1) scope.names []).lookup x).isSome = true) :
    Asg prog w g A (envC scope env C) Y (OwnC scope C) (.Name x p) a σ ((x, a) :: σ) := by
  obtain ⟨c, hc⟩ := Option.isSome_iff_exists.mp hc
  have hc' : (envC scope env C).cells.lookup x = some c := by
    show (cellsC scope env C).lookup x = some c
    unfold cellsC
    rw [cellsFrom_append, lookup_append, hc]; rfl
  refine asg_name H (.inr ⟨hk, c, hc'⟩) fun b hb => ?_
  rcases hb with ⟨e, _⟩ | ⟨_, e⟩
  · rw [hk] at e; cases e
  · rw [hc'] at e; cases e; exact .inr ⟨x, hc⟩
theorem sub_cons {x : Str} {a : AV} (h : σ.lookup x = none) : ∀ y, σ.lookup y = none ∨ σ.lookup y = ((x, a) :: σ).lookup y := fun y => by
  by_cases e : y = x
  · subst e; exact .inl h
  · right; rw [List.lookup_cons]
    have e' : (y == x) = false := by simpa using e
    rw [e']
theorem stj_true : StJ env (fun _ => True) := fun _ _ _ _ => trivial

theorem fn_of (G : Gnd g mg mb) {d : DefRec} (hd : d ∈ recs) : ∃ a, mg d.name = some (.ref a) ∧ Callable g (.ref a) := by
  obtain ⟨a, o, pm, code, doc, h1, h2, h3, _⟩ := G.fn d hd
  exact ⟨a, h1, .inr (.inr ⟨a, o, _, rfl, h2, h3⟩)⟩

theorem cp_map {α : Type} {elt tgt iter : Expr} {scope : Scope} {pos : Pos} {src : AV} {xs : List α} {enc f : α → AV} {bd : α → List (Str × AV)}
    (hs : ∀ x, foldedSetIterable iter env x = pure x) (hclos : closOk scope env = true) (hkind : scope.kind = .function) (hnd : (scope.names.map (·.1)).Nodup) (hit : Ev prog w g A env X σ iter src) (hsrc : Iters src (xs.map enc)) (hsz : xs.length ≤ 100000)
    (body : ∀ (C : Addr) (X' : Addr → Prop), Fm g (envC scope env C) X' → ∀ x ∈ xs, Asg prog w g A (envC scope env C) X' (OwnC scope C) tgt (enc x) (inner scope σ) (bd x) ∧ (∀ z, (inner scope σ).lookup z = none ∨ (inner scope σ).lookup z = (bd x).lookup z) ∧
      Ev prog w g A (envC scope env C) X' (bd x) elt (f x)) :
    Cp prog w g A env X σ elt [⟨tgt, iter, [], 0⟩] scope pos (xs.map f) := by
  have := cp_one (prog := prog) (w := w) (A := A) (X := X) (pos := pos) (elt := elt) (tgt := tgt) (pz := fun _ => true) (f := f) (ifs := []) hs hclos hkind hnd hit hsrc hsz fun C Y HC x hx => by
    obtain ⟨h1, h2, h3⟩ := body C Y HC x hx
    exact ⟨h1, h2, tests_nil, fun _ => h3⟩
  rwa [List.filter_eq_self.mpr fun _ _ => rfl] at this

theorem cp_filter {α : Type} {elt tgt iter c : Expr} {scope : Scope} {pos : Pos} {src : AV} {xs : List α} {enc f : α → AV} {pz : α → Bool} {bd : α → List (Str × AV)}
    (hs : ∀ x, foldedSetIterable iter env x = pure x) (hclos : closOk scope env = true) (hkind : scope.kind = .function) (hnd : (scope.names.map (·.1)).Nodup) (hit : Ev prog w g A env X σ iter src) (hsrc : Iters src (xs.map enc)) (hsz : xs.length ≤ 100000)
    (body : ∀ (C : Addr) (X' : Addr → Prop), Fm g (envC scope env C) X' → ∀ x ∈ xs, Asg prog w g A (envC scope env C) X' (OwnC scope C) tgt (enc x) (inner scope σ) (bd x) ∧ (∀ z, (inner scope σ).lookup z = none ∨ (inner scope σ).lookup z = (bd x).lookup z) ∧
      Tr prog w g A (envC scope env C) X' (bd x) c (pz x) ∧ Ev prog w g A (envC scope env C) X' (bd x) elt (f x)) :
    Cp prog w g A env X σ elt [⟨tgt, iter, [c], 0⟩] scope pos ((xs.filter pz).map f) :=
  cp_one hs hclos hkind hnd hit hsrc hsz fun C Y HC x hx => by
    obtain ⟨h1, h2, h3, h4⟩ := body C Y HC x hx
    exact ⟨h1, h2, tests_one h3, fun _ => h4⟩

theorem op_notin_rows {l : List (List Int)} {r : List Int} {k} (hA : Room (k + 1) A) : Op2 prog w g A X (compareOp .NotIn) (row r) (.rows l) (.bool (!decide (r ∈ l))) := fun s u v _ _ ru rv => by
  obtain ⟨b, rfl, _, hr⟩ := rel_row.mp ru
  simp only [Rel] at rv
  obtain ⟨d, xs, rfl, _, hs, hx, rfl⟩ := rv
  refine wpAny_notIn_heap (knd := tupleKind (intKind prog w)) (by exact hA.in1.u) (isRow_key hr) (by simpa using hs) (isRows_dict hx) ⟨keeps_tok s _, ?_⟩
  simp only [Rel]; rw [atKey_isSome]
theorem op_notin_ikeys {l : List Int} {i : Int} : Op2 prog w g A X (compareOp .NotIn) (.int i) (.ikeys l) (.bool (!decide (i ∈ l))) := fun s u v _ _ ru rv => by
  simp only [Rel] at ru rv
  obtain ⟨t, rfl⟩ := ru
  obtain ⟨d, f, rfl, _, hs, hf, hm⟩ := rv
  refine wpAny_notIn_of (knd := intKind prog w) (k := i) (by simp [intKind, Value.isInt]) (by simpa using hs) (isInts_mapOf hf) ⟨keeps_tok s _, ?_⟩
  simp only [Rel]; rw [hm]

theorem letOwned_ok {s : Shared} {es : List Expr} {k : Nat} {p : Pos} {I t : Addr} {Q : Unit → Shared → Prop} (ho : ∃ o, s.heap.get? I = some o ∧ OkIter o) (h : Q () s) : wpAny (model prog w) A (letOwnedTupleGo (.Tuple es k p) (.ref I) (.ref t)) Q E s := by
  obtain ⟨o, ho, T, vs, hc, hd, hT⟩ := ho
  unfold letOwnedTupleGo
  refine wpAny_bind (wpAny_load ho ?_)
  rw [hc, hd]
  refine wpAny_ite_split (fun hab => ?_) (fun _ => wpAny_pure h)
  exact absurd (hT.symm.trans (Bool.and_eq_true_iff.mp hab).1) (by simp)

theorem asg_pair {x y : Str} {px py tp : Pos} {k : Nat} {a b : AV} {Z : Addr → Prop} (H : Fm g env X) (hh : A.handled = none) (hx : env.kindOf x = some .local ∨ env.kindOf x = some .cell ∧ ∃ c, env.cells.lookup x = some c) (hy : env.kindOf y = some .local ∨ env.kindOf y = some .cell ∧ ∃ c, env.cells.lookup y = some c)
    (hZx : ∀ b, Slot env x b → Z b) (hZy : ∀ b, Slot env y b → Z b) : Asg prog w g A env X Z (.Tuple [.Name x px, .Name y py] k tp) (.tup [a, b]) σ ((y, b) :: (x, a) :: σ) := fun s I v S r ho => by
  have r0 := r
  simp only [Rel] at r0
  obtain ⟨t, vs, n, rfl, ht, hot, q⟩ := r0
  refine letOwned_ok ho ?_
  match vs, q with
  | [va, vb], q =>
    simp only [RelL] at q
    refine assign_Tuple_tuple hh (isTup_of hot) (by rfl) (by rfl) fun h' he => ?_
    have kk : Keeps s { s with heap := h' } := ⟨h', s.toks, rfl, fun b o e => he b o (Nat.ne_of_lt (Heap.lt_size e)) e⟩
    show wpAny (model prog w) A (assignInOrder [assign (.Name x px) env, assign (.Name y py) env] [va, vb]) _ _ _
    refine assignInOrder_cons (wpAny_assign_Name (store_name' H (S.ks kk) (rel_ks q.1 kk) hx fun s₁ k₁ S₁ => ?_))
    refine assignInOrder_cons (wpAny_assign_Name (store_name' H S₁ (av := b) ((rel_ks q.2.1 kk).move (k₁.kp.mono fun b hb => own_x H (slot_own hb)).move) hy fun s₂ k₂ S₂ => ?_))
    exact assignInOrder_nil ⟨((keeps_x kk).trans (k₁.mono hZx)).trans (k₂.mono hZy), S₂⟩
  | [], q => simp only [RelL] at q
  | [_], q => simp only [RelL] at q; exact q.2.elim
  | _ :: _ :: _ :: _, q => simp only [RelL] at q; exact q.2.2.elim

theorem bg_pair_swapped {x y : Str} {px py tp : Pos} {k : Nat} {a b : AV} {value : Expr} {pos : Pos} {rest : List Stmt} {Z : Addr → Prop} {J : Heap → Prop} {R : Flow → Heap → Prop} (H : Fm g env X) (hh : A.handled = none) (hZ : ∀ b, Own env b → Z b) (hJ : StJ env J)
    (hx : env.kindOf x = some .local ∨ env.kindOf x = some .cell ∧ ∃ c, env.cells.lookup x = some c) (hy : env.kindOf y = some .local ∨ env.kindOf y = some .cell ∧ ∃ c, env.cells.lookup y = some c)
    (he : Ev prog w g A env X σ value (.tup [a, b])) (hs : swapsWithSole [.Tuple [.Name x px, .Name y py] k tp] value pos.line env = pure false) (hw : swappedStores [.Tuple [.Name x px, .Name y py] k tp] value env = pure (some [x, y]))
    (h : Bg prog w g A env X Z ((x, a) :: (y, b) :: σ) J rest R) : Bg prog w g A env X Z σ J (.Assign [.Tuple [.Name x px, .Name y py] k tp] value pos :: rest) R := fun s S j => by
  refine wpAny_execs_cons (Assign_Tuple_swapped (wpAny_mono (he s S) (fun v s₁ ⟨k₁, r₁⟩ => ?_) fun _ _ e => e) hs hw)
  have S₁ := S.ks k₁
  simp only [Rel] at r₁
  obtain ⟨t, vs, n, rfl, ht, hot, q⟩ := r₁
  match vs, q with
  | [va, vb], q =>
    simp only [RelL] at q
    have u := fun (Q : List Value → Shared → Prop) (hQ : ∀ h', Heap.ExtBut s₁.heap.objs.size s₁.heap h' → Q ([va, vb] : List Value).toArray.toList { s₁ with heap := h' }) => unpackItems_tuple (prog := prog) (w := w) (A := A) (E := F0) hh (isTup_of hot) hQ
    refine u _ fun h' he => ?_
    have kk : Keeps s₁ { s₁ with heap := h' } := ⟨h', s₁.toks, rfl, fun b o e => he b o (Nat.ne_of_lt (Heap.lt_size e)) e⟩
    show wpAny (model prog w) A (assignInOrder [bindName env y, bindName env x] [vb, va]) _ _ _
    refine assignInOrder_cons (bindName_ (store_name' H (S₁.ks kk) (av := b) (rel_ks q.2.1 kk) hy fun s₂ k₂ S₂ => ?_))
    refine assignInOrder_cons (bindName_ (store_name' H S₂ (av := a) ((rel_ks q.1 kk).move (k₂.kp.mono fun b hb => own_x H (slot_own hb)).move) hx fun s₃ k₃ S₃ => ?_))
    have kA : KeepsX (Own env) s s₃ := (((keeps_x k₁).trans (keeps_x kk)).trans (k₂.mono fun b hb => slot_own hb)).trans (k₃.mono fun b hb => slot_own hb)
    exact assignInOrder_nil (wpAny_mono (h s₃ S₃ (hJ _ _ kA.kp j)) (fun f s₄ ⟨k₄, q⟩ => ⟨(kA.mono hZ).trans k₄, q⟩) fun _ _ e => e)
  | [], q => simp only [RelL] at q
  | [_], q => simp only [RelL] at q; exact q.2.elim
  | _ :: _ :: _ :: _, q => simp only [RelL] at q; exact q.2.2.elim

theorem ev_neg {x pos} {i j : Int} (h : Ev prog w g A env X σ x (.int i)) (hj : j = -i) : Ev prog w g A env X σ (.UnaryOp .USub x pos) (.int j) := fun s S => by
  refine wpAny_UnaryOp (wpAny_mono (h s S) (fun v s₁ ⟨k, r⟩ => ?_) fun _ _ e => e.elim)
  simp only [Rel] at r
  obtain ⟨t, rfl⟩ := r
  refine PyProof.Rows.neg_int ⟨keeps_trans k (keeps_tok _ _), ?_⟩
  simp only [Rel]; exact ⟨_, by rw [hj]⟩

/-- r[k] of a row -/
theorem ev_at {value slice : Expr} {pos} {r : List Int} {k : Int} {j : Nat} {i : Int} (hv : Ev prog w g A env X σ value (row r)) (hi : Ev prog w g A env X σ slice (.int k)) (hj : seqIndex? k r.length = some j) (hr : r[j]? = some i) (hk : -1000 ≤ k ∧ k ≤ 1000)
    (hs : ∀ (t : Addr) (u : Tok), subscripted slice false (.ref t) (.int k u) = operate [.ref t, .int k u] (getItem (.ref t) (.int k u))) : Ev prog w g A env X σ (.Subscript value slice pos) (.int i) :=
  ev_item hv hi (by rw [List.length_map]; exact hj) (by rw [List.getElem?_map, hr]; rfl) hk hs
theorem cut_map {α β : Type} (f : α → β) (lo hi : Option Int) (l : List α) : cut lo hi (l.map f) = (cut lo hi l).map f := by
  unfold cut; rw [List.length_map, List.map_take, List.map_drop]
theorem ev_cut {value : Expr} {lower upper : Option Expr} {lo hi : Option Int} {p pos} {r : List Int} (H : Fm g env X) (hv : Ev prog w g A env X σ value (row r)) (hl : EvP prog w g A env X σ lower lo) (hu : EvP prog w g A env X σ upper hi) (hz : r.length ≤ 100000) :
    Ev prog w g A env X σ (.Subscript value (.Slice lower upper none p) pos) (row (cut lo hi r)) :=
  ev_eq (ev_slice H hv hl hu (by rw [List.length_map]; exact hz)) (by rw [cut_map])
theorem op_catR {r r' : List Int} (hz : r.length + r'.length ≤ 100000) : Op2 prog w g A X (binaryOp .Add) (row r) (row r') (row (r ++ r')) := by
  have := op_cat (prog := prog) (w := w) (g := g) (A := A) (X := X) (l := r.map .int) (l' := r'.map .int) (by simpa using hz)
  rwa [← List.map_append] at this
theorem op_catS {S T : List (List Int)} (hz : S.length + T.length ≤ 100000) : Op2 prog w g A X (binaryOp .Add) (rowsT S) (rowsT T) (rowsT (S ++ T)) := by
  have := op_cat (prog := prog) (w := w) (g := g) (A := A) (X := X) (l := S.map row) (l' := T.map row) (by simpa using hz)
  rwa [← List.map_append] at this
theorem op_catSL {S T : List (List Int)} (hz : S.length + T.length ≤ 100000) : Op2 prog w g A X (binaryOp .Add) (rowsL S) (rowsL T) (rowsL (S ++ T)) := by
  have := op_catL (prog := prog) (w := w) (g := g) (A := A) (X := X) (l := S.map row) (l' := T.map row) (by simpa using hz)
  rwa [← List.map_append] at this
theorem cl_lenS {S : List (List Int)} (hz : S.length ≤ 100000) : Cl prog w g A X (.builtin "len") [rowsT S] (.int S.length) := by
  have := cl_len (prog := prog) (w := w) (g := g) (A := A) (X := X) (l := S.map row) (by simpa using hz)
  rwa [List.length_map] at this
theorem cl_lenR {r : List Int} (hz : r.length ≤ 100000) : Cl prog w g A X (.builtin "len") [row r] (.int r.length) := by
  have := cl_len (prog := prog) (w := w) (g := g) (A := A) (X := X) (l := r.map .int) (by simpa using hz)
  rwa [List.length_map] at this
theorem cl_lenSL {S : List (List Int)} (hz : S.length ≤ 100000) : Cl prog w g A X (.builtin "len") [rowsL S] (.int S.length) := by
  have := cl_lenL (prog := prog) (w := w) (g := g) (A := A) (X := X) (l := S.map row) (by simpa using hz)
  rwa [List.length_map] at this
end

/- a call of a built-in type / function with one argument -/
end Mine
end

section
open PySem PySem.W PyProof.Rows
set_option Elab.async false
set_option maxRecDepth 100000
set_option linter.unusedVariables false
namespace Mine
section
variable {prog : Program} {w : World} {g : Heap} {mg mb : Str → Option Value} {A : Around} {env : Env} {X X' : Addr → Prop} {σ σ' : List (Str × AV)} {E : Value → Shared → Prop} {R : Result → Shared → Prop}

theorem c_set_of (G : Gnd g mg mb) (hA : Room 5 A) {a : Addr} (ha : mg Fset_of.name = some (.ref a)) {l : List (List Int)} {src : AV} (hsrc : Iters src (l.map row)) (hz : l.length ≤ 100000) (h64 : (firsts l).length < 64) (hne : ∀ r ∈ l, r ≠ []) :
    Cl prog w g A X (.ref a) [src] (rowsT (setOf l)) := by
  refine cl_def G (d := Fset_of) (by simp [recs]) ha (k := 4) (names := ["tuples"]) hA rfl (fun _ _ _ vs h => ?_) rfl (by decide) rfl rfl rfl fun L cd X' H hA' => ?_
  · match vs, h with
    | [v], _ => rfl
  · refine bg_ret stj_true ?_ fun h v S _ r => ⟨v, rfl, r⟩
    refine ev_call H (by exact ev_boot (by assumption) (by assumption) (by simp [bnames]) rfl rfl rfl) (.inr (.inl ⟨_, rfl⟩)) (evl_cons (r := .list ((setOf l).map row)) ?_ rfl evl_nil) (cl_tuple ?_) rfl
    · refine ev_call H (by exact ev_boot (by assumption) (by assumption) (by simp [bnames]) rfl rfl rfl) (.inl ⟨_, rfl⟩) (evl_cons (r := .rows (firsts l)) ?_ rfl evl_nil) (cl_sorted hA' h64 (fun r hr => hne r ((mem_firsts l r).mp hr)) fun m hp hs => sorted_uniq hp hs) rfl
      refine ev_call H (by exact ev_boot (by assumption) (by assumption) (by simp [bnames]) rfl rfl rfl) (.inr (.inl ⟨_, rfl⟩)) (evl_cons (r := .list (l.map fun r => .tup [row r, .bool true])) ?_ rfl evl_nil) (cl_dict_rows hA' hz G.sy) rfl
      exact ev_cp H hA'.hh (cp_map (xs := l) (enc := row) (src := src) (bd := fun r => [("one", row r)]) (fun _ => rfl) rfl rfl (by decide) (by first | exact ev_local (by assumption) rfl rfl rfl | exact ev_cell' (by assumption) rfl rfl rfl rfl) hsrc hz fun C Y HC x hx =>
        ⟨asg_nm HC rfl, sub_cons rfl, ev_tuple HC (evl_cons (by first | exact ev_local (by assumption) rfl rfl rfl | exact ev_cell' (by assumption) rfl rfl rfl rfl) rfl (evl_cons ev_bool rfl evl_nil)) (by simp)⟩)
    · have := (sorted_nodup (setOf_sorted l)).length_le_of_subset (l₂ := firsts l) fun x hx => (mem_firsts l x).mpr (mem_setOf.mp hx)
      rw [List.length_map]; omega
end
end Mine
end

section
open PySem PySem.W PyProof.Rows
set_option Elab.async false
set_option maxRecDepth 100000
set_option linter.unusedVariables false
namespace Mine

noncomputable def arityOf : List (List Int) → Int
  | [] => 0
  | r :: _ => r.length
noncomputable def unionP (s t : List (List Int)) := setOf (s ++ t)
noncomputable def meetP (s t : List (List Int)) := s.filter fun r => decide (r ∈ t)
noncomputable def minusP (s t : List (List Int)) := s.filter fun r => !decide (r ∈ t)
noncomputable def productP (s t : List (List Int)) := s.flatMap fun x => t.map (x ++ ·)
noncomputable def heads (t : List (List Int)) := t.map (·.headD 0)
noncomputable def overrideP (s t : List (List Int)) := setOf (t ++ s.filter fun r => !decide (r.headD 0 ∈ heads t))
noncomputable def aheadP (s r : List (List Int)) := r.filter fun x => decide (cut none (some 1) x ∈ s)
noncomputable def behindP (r s : List (List Int)) := r.filter fun x => decide (cut (some (-1)) none x ∈ s)
noncomputable def turnedP (s : List (List Int)) := setOf (s.map List.reverse)
noncomputable def idenP (n : Nat) : List (List Int) := (List.range n).map fun (i : Nat) => [(i : Int), (i : Int)]

section
variable {prog : Program} {w : World} {g : Heap} {mg mb : Str → Option Value} {A : Around} {env : Env} {X X' : Addr → Prop} {σ σ' : List (Str × AV)} {E : Value → Shared → Prop} {R : Result → Shared → Prop}

theorem c_arity_of (G : Gnd g mg mb) (hA : Room 5 A) {a : Addr} (ha : mg Farity_of.name = some (.ref a)) {S : List (List Int)} (hz : S.length ≤ 100000) (hz2 : ∀ r ∈ S, r.length ≤ 1000) :
    Cl prog w g A X (.ref a) [rowsT S] (.int (arityOf S)) := by
  refine cl_def G (d := Farity_of) (by simp [recs]) ha (k := 4) (names := ["s"]) hA rfl (fun _ _ _ vs h => ?_) rfl (by decide) rfl rfl rfl fun L cd X' H hA' => ?_
  · match vs, h with
    | [v], _ => rfl
  · refine bg_ret stj_true (r := if decide ((0 : Int) < S.length) = true then .int (arityOf S) else .int 0) (ev_ite (b := decide ((0 : Int) < S.length)) ?_ (fun hb => ?_) fun hb => ev_int) fun h v S' _ r => ⟨v, rfl, ?_⟩
    · exact tr_cmp H (ev_call H (by exact ev_boot (by assumption) (by assumption) (by simp [bnames]) rfl rfl rfl) (.inl ⟨_, rfl⟩) (evl_cons (by first | exact ev_local (by assumption) rfl rfl rfl | exact ev_cell' (by assumption) rfl rfl rfl rfl) rfl evl_nil) (cl_lenS hz) rfl) ev_int op_gt rfl
    · match S, hz2, hb with
      | [], _, hb => simp at hb
      | r :: S, hz2, _ =>
        refine ev_call H (by exact ev_boot (by assumption) (by assumption) (by simp [bnames]) rfl rfl rfl) (.inl ⟨_, rfl⟩) (evl_cons (r := row r) ?_ rfl evl_nil) (cl_lenR (by have := hz2 r List.mem_cons_self; omega)) rfl
        exact ev_item (k := 0) (j := 0) (by first | exact ev_local (by assumption) rfl rfl rfl | exact ev_cell' (by assumption) rfl rfl rfl rfl) ev_int (by rw [seqIndex_of (by decide) (by simp)]; rfl) rfl (by decide) (fun _ _ => rfl)
    · match S, r with
      | [], r => simp at r; exact r
      | x :: S, r => simpa using r

theorem c_iden (G : Gnd g mg mb) (hA : Room 5 A) {a : Addr} (ha : mg Fiden_of.name = some (.ref a)) {n : Nat} (hn : n ≤ 1000) : Cl prog w g A X (.ref a) [.int n] (rowsT (idenP n)) := by
  refine cl_def G (d := Fiden_of) (by simp [recs]) ha (k := 4) (names := ["n"]) hA rfl (fun _ _ _ vs h => ?_) rfl (by decide) rfl rfl rfl fun L cd X' H hA' => ?_
  · match vs, h with
    | [v], _ => rfl
  · refine bg_ret stj_true (ev_call H (by exact ev_boot (by assumption) (by assumption) (by simp [bnames]) rfl rfl rfl) (.inr (.inl ⟨_, rfl⟩)) (evl_cons (r := .list ((List.range n).map fun (i : Nat) => row [(i : Int), i])) (ev_cp H hA'.hh (cp_map (xs := List.range n) (enc := fun (i : Nat) => .int i) (bd := fun (i : Nat) => [("a", .int i)]) (src := .rng n) (fun _ => rfl) rfl rfl (by decide) ?_ (.rng n (by omega)) (by simp; omega) ?_)) rfl evl_nil) (cl_tuple (by simp; omega)) rfl) fun h v S _ r => ⟨v, rfl, ?_⟩
    · exact ev_call H (by exact ev_boot (by assumption) (by assumption) (by simp [bnames]) rfl rfl rfl) (.inr (.inl ⟨_, rfl⟩)) (evl_cons (by first | exact ev_local (by assumption) rfl rfl rfl | exact ev_cell' (by assumption) rfl rfl rfl rfl) rfl evl_nil) cl_range rfl
    · intro C Y HC i _
      exact ⟨asg_nm HC rfl, sub_cons rfl, ev_tuple HC (evl_cons (by first | exact ev_local (by assumption) rfl rfl rfl | exact ev_cell' (by assumption) rfl rfl rfl rfl) rfl (evl_cons (by first | exact ev_local (by assumption) rfl rfl rfl | exact ev_cell' (by assumption) rfl rfl rfl rfl) rfl evl_nil)) (by simp)⟩
    · show Rel X' h (.tup ((idenP n).map row)) v
      unfold idenP; rw [List.map_map]; exact r

theorem c_union (G : Gnd g mg mb) (hA : Room 7 A) {a : Addr} (ha : mg Funion.name = some (.ref a)) {s t : List (List Int)} (hz : s.length + t.length ≤ 100000) (h64 : (firsts (s ++ t)).length < 64) (hne : ∀ r ∈ s ++ t, r ≠ []) :
    Cl prog w g A X (.ref a) [rowsT s, rowsT t] (rowsT (unionP s t)) := by
  refine cl_def G (d := Funion) (by simp [recs]) ha (k := 6) (names := ["s", "t"]) hA rfl (fun _ _ _ vs h => ?_) rfl (by decide) rfl rfl rfl fun L cd X' H hA' => ?_
  · match vs, h with
    | [v, u], _ => rfl
  · obtain ⟨a', ha', hC⟩ := fn_of G (d := Fset_of) (by simp [recs])
    refine bg_ret stj_true (ev_call H (ev_glob G H ha' rfl rfl) hC (evl_cons (r := rowsT (s ++ t)) (ev_bin H (by first | exact ev_local (by assumption) rfl rfl rfl | exact ev_cell' (by assumption) rfl rfl rfl rfl) (by first | exact ev_local (by assumption) rfl rfl rfl | exact ev_cell' (by assumption) rfl rfl rfl rfl) (op_catS hz)) rfl evl_nil) (c_set_of G (hA'.le (by decide)) ha' (.tup _) (by simpa using hz) h64 hne) rfl) fun h v S _ r => ⟨v, rfl, r⟩

/-- dict([(one, True) for one in ..]) of a relation -/

theorem c_meet (G : Gnd g mg mb) (hA : Room 5 A) {a : Addr} (ha : mg Fmeet.name = some (.ref a)) {s t : List (List Int)} (hz : s.length ≤ 100000) (hz' : t.length ≤ 100000) :
    Cl prog w g A X (.ref a) [rowsT s, rowsT t] (rowsT (meetP s t)) := by
  refine cl_def G (d := Fmeet) (by simp [recs]) ha (k := 4) (names := ["s", "t"]) hA rfl (fun _ _ _ vs h => ?_) rfl (by decide) rfl rfl rfl fun L cd X' H hA' => ?_
  · match vs, h with
    | [v, u], _ => rfl
  · refine bg_assign H (fun _ h => h) stj_true (r := .rows (firsts t)) ?_ (.inr ⟨rfl, _, rfl⟩) rfl ?_
    · refine ev_call (by assumption) (by exact ev_boot (by assumption) (by assumption) (by simp [bnames]) rfl rfl rfl) (.inr (.inl ⟨_, rfl⟩)) (evl_cons (r := .list (List.map (fun r => AV.tup [row r, .bool true]) _)) ?_ rfl evl_nil) (cl_dict_rows hA' (by assumption) G.sy) rfl
      refine ev_cp (by assumption) (Room.hh hA') (cp_map (enc := row) (bd := fun r => [("one", row r)]) (fun _ => rfl) rfl rfl (by decide) (by first | exact ev_local (by assumption) rfl rfl rfl | exact ev_cell' (by assumption) rfl rfl rfl rfl) (.tup _) (by assumption) fun C Y HC x hx => ⟨asg_nm HC rfl, sub_cons rfl, ev_tuple HC (evl_cons (by first | exact ev_local (by assumption) rfl rfl rfl | exact ev_cell' (by assumption) rfl rfl rfl rfl) rfl (evl_cons ev_bool rfl evl_nil)) (by simp)⟩)
    · refine bg_ret stj_true (ev_call H (by exact ev_boot (by assumption) (by assumption) (by simp [bnames]) rfl rfl rfl) (.inr (.inl ⟨_, rfl⟩)) (evl_cons (r := .list ((s.filter fun r => decide (r ∈ firsts t)).map row)) (ev_cp H hA'.hh (cp_filter (xs := s) (enc := row) (f := row) (bd := fun r => [("one", row r), ("known", .rows (firsts t))]) (src := rowsT s) (fun _ => rfl) rfl rfl (by decide) (by first | exact ev_local (by assumption) rfl rfl rfl | exact ev_cell' (by assumption) rfl rfl rfl rfl) (.tup _) hz ?_)) rfl evl_nil) (cl_tuple ?_) rfl) fun h v S _ r => ⟨v, rfl, ?_⟩
      · intro C Y HC r _
        exact ⟨asg_nm HC rfl, sub_cons rfl, tr_cmp HC (by first | exact ev_local (by assumption) rfl rfl rfl | exact ev_cell' (by assumption) rfl rfl rfl rfl) (by first | exact ev_local (by assumption) rfl rfl rfl | exact ev_cell' (by assumption) rfl rfl rfl rfl) (op_in_rows hA') rfl, (by first | exact ev_local (by assumption) rfl rfl rfl | exact ev_cell' (by assumption) rfl rfl rfl rfl)⟩
      · rw [List.length_map]; have := List.length_filter_le (fun r => decide (r ∈ firsts t)) s; omega
      · have e : (s.filter fun r => decide (r ∈ firsts t)) = meetP s t := by unfold meetP; congr 1; funext r; rw [decide_eq_decide]; exact mem_firsts t r
        rw [e] at r; exact r

theorem c_minus (G : Gnd g mg mb) (hA : Room 5 A) {a : Addr} (ha : mg Fminus.name = some (.ref a)) {s t : List (List Int)} (hz : s.length ≤ 100000) (hz' : t.length ≤ 100000) :
    Cl prog w g A X (.ref a) [rowsT s, rowsT t] (rowsT (minusP s t)) := by
  refine cl_def G (d := Fminus) (by simp [recs]) ha (k := 4) (names := ["s", "t"]) hA rfl (fun _ _ _ vs h => ?_) rfl (by decide) rfl rfl rfl fun L cd X' H hA' => ?_
  · match vs, h with
    | [v, u], _ => rfl
  · refine bg_assign H (fun _ h => h) stj_true (r := .rows (firsts t)) ?_ (.inr ⟨rfl, _, rfl⟩) rfl ?_
    · refine ev_call (by assumption) (by exact ev_boot (by assumption) (by assumption) (by simp [bnames]) rfl rfl rfl) (.inr (.inl ⟨_, rfl⟩)) (evl_cons (r := .list (List.map (fun r => AV.tup [row r, .bool true]) _)) ?_ rfl evl_nil) (cl_dict_rows hA' (by assumption) G.sy) rfl
      refine ev_cp (by assumption) (Room.hh hA') (cp_map (enc := row) (bd := fun r => [("one", row r)]) (fun _ => rfl) rfl rfl (by decide) (by first | exact ev_local (by assumption) rfl rfl rfl | exact ev_cell' (by assumption) rfl rfl rfl rfl) (.tup _) (by assumption) fun C Y HC x hx => ⟨asg_nm HC rfl, sub_cons rfl, ev_tuple HC (evl_cons (by first | exact ev_local (by assumption) rfl rfl rfl | exact ev_cell' (by assumption) rfl rfl rfl rfl) rfl (evl_cons ev_bool rfl evl_nil)) (by simp)⟩)
    · refine bg_ret stj_true (ev_call H (by exact ev_boot (by assumption) (by assumption) (by simp [bnames]) rfl rfl rfl) (.inr (.inl ⟨_, rfl⟩)) (evl_cons (r := .list ((s.filter fun r => !decide (r ∈ firsts t)).map row)) (ev_cp H hA'.hh (cp_filter (xs := s) (enc := row) (f := row) (bd := fun r => [("one", row r), ("known", .rows (firsts t))]) (src := rowsT s) (fun _ => rfl) rfl rfl (by decide) (by first | exact ev_local (by assumption) rfl rfl rfl | exact ev_cell' (by assumption) rfl rfl rfl rfl) (.tup _) hz ?_)) rfl evl_nil) (cl_tuple ?_) rfl) fun h v S _ r => ⟨v, rfl, ?_⟩
      · intro C Y HC r _
        exact ⟨asg_nm HC rfl, sub_cons rfl, tr_cmp HC (by first | exact ev_local (by assumption) rfl rfl rfl | exact ev_cell' (by assumption) rfl rfl rfl rfl) (by first | exact ev_local (by assumption) rfl rfl rfl | exact ev_cell' (by assumption) rfl rfl rfl rfl) (op_notin_rows hA') rfl, (by first | exact ev_local (by assumption) rfl rfl rfl | exact ev_cell' (by assumption) rfl rfl rfl rfl)⟩
      · rw [List.length_map]; have := List.length_filter_le (fun r => !decide (r ∈ firsts t)) s; omega
      · have e : (s.filter fun r => !decide (r ∈ firsts t)) = minusP s t := by unfold minusP; congr 1; funext r; rw [show decide (r ∈ firsts t) = decide (r ∈ t) from decide_eq_decide.mpr (mem_firsts t r)]
        rw [e] at r; exact r

theorem c_is_within (G : Gnd g mg mb) (hA : Room 7 A) {a : Addr} (ha : mg Fis_within.name = some (.ref a)) {s t : List (List Int)} (hz : s.length ≤ 100000) (hz' : t.length ≤ 100000) :
    Cl prog w g A X (.ref a) [rowsT s, rowsT t] (.bool (decide (minusP s t = []))) := by
  refine cl_def G (d := Fis_within) (by simp [recs]) ha (k := 6) (names := ["s", "t"]) hA rfl (fun _ _ _ vs h => ?_) rfl (by decide) rfl rfl rfl fun L cd X' H hA' => ?_
  · match vs, h with
    | [v, u], _ => rfl
  · obtain ⟨a', ha', hC⟩ := fn_of G (d := Fminus) (by simp [recs])
    refine bg_ret stj_true (ev_cmp H (ev_call H (ev_glob G H ha' rfl rfl) hC (evl_cons (by first | exact ev_local (by assumption) rfl rfl rfl | exact ev_cell' (by assumption) rfl rfl rfl rfl) rfl (evl_cons (by first | exact ev_local (by assumption) rfl rfl rfl | exact ev_cell' (by assumption) rfl rfl rfl rfl) rfl evl_nil)) (c_minus G (hA'.le (by decide)) ha' hz hz') rfl) (ev_tuple H evl_nil (by decide)) (op_eq_rows (T := []) hA') rfl) fun h v S _ r => ⟨v, rfl, r⟩

theorem c_product (G : Gnd g mg mb) (hA : Room 5 A) {a : Addr} (ha : mg Fproduct.name = some (.ref a)) {s t : List (List Int)} (hz : s.length * t.length ≤ 100000) (hw : ∀ r ∈ s ++ t, r.length ≤ 1000) :
    Cl prog w g A X (.ref a) [rowsT s, rowsT t] (rowsT (productP s t)) := by
  have hlen : (s.flatMap fun x => (t.filter fun _ => true).map fun y => row (x ++ y)).length ≤ 100000 := by
    have hf : (t.filter fun _ => true) = t := List.filter_eq_self.mpr fun _ _ => rfl
    have : ∀ s : List (List Int), (s.flatMap fun x => (t.filter fun _ => true).map fun y => row (x ++ y)).length = s.length * t.length := by
      intro s
      induction s with
      | nil => simp
      | cons x s ih => rw [List.flatMap_cons, List.length_append, ih, List.length_cons, Nat.succ_mul, List.length_map, hf]; omega
    rw [this]; exact hz
  refine cl_def G (d := Fproduct) (by simp [recs]) ha (k := 4) (names := ["s", "t"]) hA rfl (fun _ _ _ vs h => ?_) rfl (by decide) rfl rfl rfl fun L cd X' H hA' => ?_
  · match vs, h with
    | [v, u], _ => rfl
  · refine bg_ret stj_true (ev_call H (by exact ev_boot (by assumption) (by assumption) (by simp [bnames]) rfl rfl rfl) (.inr (.inl ⟨_, rfl⟩)) (evl_cons (ev_cp H hA'.hh (cp_two (xs := s) (enc := row) (bd := fun x => [("one", row x), ("t", rowsT t)]) (src := rowsT s) (src2 := fun _ => rowsT t) (ys := fun _ => t) (enc2 := fun _ => row) (f := fun x y => row (x ++ y)) (pz := fun _ _ => true) (bd2 := fun x y => [("late", row y), ("one", row x), ("t", rowsT t)]) hA'.hh (fun _ => rfl) rfl rfl (by decide) (by first | exact ev_local (by assumption) rfl rfl rfl | exact ev_cell' (by assumption) rfl rfl rfl rfl) (.tup _) (fun _ _ => rfl) hlen ?_ ?_)) rfl evl_nil) (cl_tuple hlen) rfl) fun h v S _ r => ⟨v, rfl, ?_⟩
    · intro C Y HC x _
      exact ⟨asg_nm HC rfl, sub_cons rfl, (by first | exact ev_local (by assumption) rfl rfl rfl | exact ev_cell' (by assumption) rfl rfl rfl rfl), .tup _⟩
    · intro C Y HC x hx y hy
      exact ⟨asg_nm HC rfl, sub_cons rfl, tests_nil, fun _ => ev_bin HC (by first | exact ev_local (by assumption) rfl rfl rfl | exact ev_cell' (by assumption) rfl rfl rfl rfl) (by first | exact ev_local (by assumption) rfl rfl rfl | exact ev_cell' (by assumption) rfl rfl rfl rfl) (op_catR (by have := hw x (List.mem_append_left _ hx); have := hw y (List.mem_append_right _ hy); omega))⟩
    · have e : (s.flatMap fun x => (t.filter fun _ => true).map fun y => row (x ++ y)) = (productP s t).map row := by
        unfold productP
        rw [List.map_flatMap]
        congr 1; funext x
        rw [List.filter_eq_self.mpr fun _ _ => rfl, List.map_map]; rfl
      rw [e] at r; exact r

theorem c_turned (G : Gnd g mg mb) (hA : Room 7 A) {a : Addr} (ha : mg Fturned.name = some (.ref a)) {s : List (List Int)} (hz : s.length ≤ 100000) (h2 : ∀ r ∈ s, r.length = 2) (h64 : (firsts (s.map List.reverse)).length < 64) :
    Cl prog w g A X (.ref a) [rowsT s] (rowsT (turnedP s)) := by
  refine cl_def G (d := Fturned) (by simp [recs]) ha (k := 6) (names := ["s"]) hA rfl (fun _ _ _ vs h => ?_) rfl (by decide) rfl rfl rfl fun L cd X' H hA' => ?_
  · match vs, h with
    | [v], _ => rfl
  · obtain ⟨a', ha', hC⟩ := fn_of G (d := Fset_of) (by simp [recs])
    refine bg_ret stj_true (ev_call H (ev_glob G H ha' rfl rfl) hC (evl_cons (r := .list (s.map fun r => row r.reverse)) (ev_cp H hA'.hh (cp_map (xs := s) (enc := row) (bd := fun r => [("b", .int (r.getD 1 0)), ("a", .int (r.getD 0 0))]) (src := rowsT s) (fun _ => rfl) rfl rfl (by decide) (by first | exact ev_local (by assumption) rfl rfl rfl | exact ev_cell' (by assumption) rfl rfl rfl rfl) (.tup _) hz ?_)) rfl evl_nil) ?_ rfl) fun h v S _ r => ⟨v, rfl, r⟩
    · intro C Y HC r hr
      match r, h2 r hr with
      | [x, y], _ =>
        refine ⟨asg_pair HC hA'.hh (.inl rfl) (.inl rfl) (fun b hb => ?_) (fun b hb => ?_), fun z => ?_, ev_tuple HC (evl_cons (by first | exact ev_local (by assumption) rfl rfl rfl | exact ev_cell' (by assumption) rfl rfl rfl rfl) rfl (evl_cons (by first | exact ev_local (by assumption) rfl rfl rfl | exact ev_cell' (by assumption) rfl rfl rfl rfl) rfl evl_nil)) (by simp)⟩
        · rcases hb with ⟨_, e⟩ | ⟨e, _⟩
          · exact .inl e
          · cases e
        · rcases hb with ⟨_, e⟩ | ⟨e, _⟩
          · exact .inl e
          · cases e
        · exact .inl rfl
    · have e : (s.map fun r => row r.reverse) = (s.map List.reverse).map row := by rw [List.map_map]; rfl
      rw [e]
      exact c_set_of G (hA'.le (by decide)) ha' (.list _) (by simpa using hz) h64 (fun r hr => by
        obtain ⟨x, hx, rfl⟩ := List.mem_map.mp hr
        have := h2 x hx
        intro e; rw [← List.length_eq_zero_iff, List.length_reverse] at e; omega)
end
end Mine
end

section
open PySem PySem.W PyProof.Rows
set_option Elab.async false
set_option maxRecDepth 100000
set_option linter.unusedVariables false
namespace Mine
section
variable {prog : Program} {w : World} {g : Heap} {mg mb : Str → Option Value} {A : Around} {env : Env} {X X' : Addr → Prop} {σ σ' : List (Str × AV)} {E : Value → Shared → Prop} {R : Result → Shared → Prop}

theorem seq0 {r : List Int} (h : r ≠ []) : seqIndex? 0 r.length = some 0 ∧ r[0]? = some (r.headD 0) := by
  cases r with
  | nil => exact absurd rfl h
  | cons x r => exact ⟨by rw [seqIndex_of (by decide) (by simp)]; rfl, rfl⟩

theorem c_override (G : Gnd g mg mb) (hA : Room 7 A) {a : Addr} (ha : mg Foverride.name = some (.ref a)) {s t : List (List Int)} (hz : s.length + t.length ≤ 100000) (hne : ∀ r ∈ t ++ s, r ≠ []) (hw : ∀ r ∈ t ++ s, r.length ≤ 1000)
    (h64 : (firsts (t ++ s.filter fun r => !decide (r.headD 0 ∈ heads t))).length < 64) : Cl prog w g A X (.ref a) [rowsT s, rowsT t] (rowsT (overrideP s t)) := by
  have hfl := List.length_filter_le (fun r : List Int => !decide (r.headD 0 ∈ heads t)) s
  refine cl_def G (d := Foverride) (by simp [recs]) ha (k := 6) (names := ["s", "t"]) hA rfl (fun _ _ _ vs h => ?_) rfl (by decide) rfl rfl rfl fun L cd X' H hA' => ?_
  · match vs, h with
    | [v, u], _ => rfl
  · obtain ⟨a', ha', hC⟩ := fn_of G (d := Fset_of) (by simp [recs])
    refine bg_assign H (fun _ h => h) stj_true (r := .ikeys (heads t)) ?_ (.inr ⟨rfl, _, rfl⟩) rfl ?_
    · refine ev_call H (by exact ev_boot (by assumption) (by assumption) (by simp [bnames]) rfl rfl rfl) (.inr (.inl ⟨_, rfl⟩)) (evl_cons (r := .list ((heads t).map fun i => .tup [.int i, .bool true])) ?_ rfl evl_nil) (cl_dict_ints hA'.hh (by unfold heads; rw [List.length_map]; omega) G.sy) rfl
      refine ev_eq (ev_cp H hA'.hh (cp_map (xs := t) (enc := row) (f := fun r => .tup [.int (r.headD 0), .bool true]) (bd := fun r => [("late", row r)]) (src := rowsT t) (fun _ => rfl) rfl rfl (by decide) (by first | exact ev_local (by assumption) rfl rfl rfl | exact ev_cell' (by assumption) rfl rfl rfl rfl) (.tup _) (by omega) fun C Y HC r hr => ?_)) (by unfold heads; rw [List.map_map]; rfl)
      obtain ⟨h1, h2⟩ := seq0 (hne r (List.mem_append_left _ hr))
      exact ⟨asg_nm HC rfl, sub_cons rfl, ev_tuple HC (evl_cons (ev_at (by first | exact ev_local (by assumption) rfl rfl rfl | exact ev_cell' (by assumption) rfl rfl rfl rfl) ev_int h1 h2 (by decide) (fun _ _ => rfl)) rfl (evl_cons ev_bool rfl evl_nil)) (by simp)⟩
    · refine bg_ret stj_true (ev_call H (ev_glob G H ha' rfl rfl) hC (evl_cons (r := rowsT (t ++ s.filter fun r => !decide (r.headD 0 ∈ heads t))) (ev_bin H (by first | exact ev_local (by assumption) rfl rfl rfl | exact ev_cell' (by assumption) rfl rfl rfl rfl) (b := rowsT (s.filter fun r => !decide (r.headD 0 ∈ heads t))) ?_ (op_catS (by omega))) rfl evl_nil)
        (c_set_of G (hA'.le (by decide)) ha' (.tup _) (by rw [List.length_append]; omega) h64 fun r hr => hne r ?_) rfl) fun h v S _ r => ⟨v, rfl, r⟩
      · refine ev_call H (by exact ev_boot (by assumption) (by assumption) (by simp [bnames]) rfl rfl rfl) (.inr (.inl ⟨_, rfl⟩)) (evl_cons (r := .list ((s.filter fun r => !decide (r.headD 0 ∈ heads t)).map row)) (ev_cp H hA'.hh (cp_filter (xs := s) (enc := row) (f := row) (bd := fun r => [("one", row r), ("begun", .ikeys (heads t))]) (src := rowsT s) (fun _ => rfl) rfl rfl (by decide) (by first | exact ev_local (by assumption) rfl rfl rfl | exact ev_cell' (by assumption) rfl rfl rfl rfl) (.tup _) (by omega) fun C Y HC r hr => ?_)) rfl evl_nil) (cl_tuple (by rw [List.length_map]; omega)) rfl
        obtain ⟨h1, h2⟩ := seq0 (hne r (List.mem_append_right _ hr))
        exact ⟨asg_nm HC rfl, sub_cons rfl, tr_cmp HC (ev_at (by first | exact ev_local (by assumption) rfl rfl rfl | exact ev_cell' (by assumption) rfl rfl rfl rfl) ev_int h1 h2 (by decide) (fun _ _ => rfl)) (by first | exact ev_local (by assumption) rfl rfl rfl | exact ev_cell' (by assumption) rfl rfl rfl rfl) op_notin_ikeys rfl, (by first | exact ev_local (by assumption) rfl rfl rfl | exact ev_cell' (by assumption) rfl rfl rfl rfl)⟩
      · rcases List.mem_append.mp hr with h | h
        · exact List.mem_append_left _ h
        · exact List.mem_append_right _ (List.mem_filter.mp h).1

theorem c_ahead (G : Gnd g mg mb) (hA : Room 5 A) {a : Addr} (ha : mg Fahead.name = some (.ref a)) {s r : List (List Int)} (hz : s.length ≤ 100000) (hz' : r.length ≤ 100000) (hw : ∀ x ∈ r, x.length ≤ 1000) :
    Cl prog w g A X (.ref a) [rowsT s, rowsT r] (rowsT (aheadP s r)) := by
  refine cl_def G (d := Fahead) (by simp [recs]) ha (k := 4) (names := ["s", "r"]) hA rfl (fun _ _ _ vs h => ?_) rfl (by decide) rfl rfl rfl fun L cd X' H hA' => ?_
  · match vs, h with
    | [v, u], _ => rfl
  · refine bg_assign H (fun _ h => h) stj_true (r := .rows (firsts s)) ?_ (.inr ⟨rfl, _, rfl⟩) rfl ?_
    · refine ev_call (by assumption) (by exact ev_boot (by assumption) (by assumption) (by simp [bnames]) rfl rfl rfl) (.inr (.inl ⟨_, rfl⟩)) (evl_cons (r := .list (List.map (fun r => AV.tup [row r, .bool true]) _)) ?_ rfl evl_nil) (cl_dict_rows hA' (by assumption) G.sy) rfl
      refine ev_cp (by assumption) (Room.hh hA') (cp_map (enc := row) (bd := fun r => [("one", row r)]) (fun _ => rfl) rfl rfl (by decide) (by first | exact ev_local (by assumption) rfl rfl rfl | exact ev_cell' (by assumption) rfl rfl rfl rfl) (.tup _) (by assumption) fun C Y HC x hx => ⟨asg_nm HC rfl, sub_cons rfl, ev_tuple HC (evl_cons (by first | exact ev_local (by assumption) rfl rfl rfl | exact ev_cell' (by assumption) rfl rfl rfl rfl) rfl (evl_cons ev_bool rfl evl_nil)) (by simp)⟩)
    · refine bg_ret stj_true (ev_call H (by exact ev_boot (by assumption) (by assumption) (by simp [bnames]) rfl rfl rfl) (.inr (.inl ⟨_, rfl⟩)) (evl_cons (r := .list ((r.filter fun x => decide (cut none (some 1) x ∈ firsts s)).map row)) (ev_cp H hA'.hh (cp_filter (xs := r) (enc := row) (f := row) (bd := fun x => [("one", row x), ("known", .rows (firsts s))]) (src := rowsT r) (fun _ => rfl) rfl rfl (by decide) (by first | exact ev_local (by assumption) rfl rfl rfl | exact ev_cell' (by assumption) rfl rfl rfl rfl) (.tup _) hz' ?_)) rfl evl_nil) (cl_tuple ?_) rfl) fun h v S _ q => ⟨v, rfl, ?_⟩
      · intro C Y HC x hx
        exact ⟨asg_nm HC rfl, sub_cons rfl, tr_cmp HC (ev_cut HC (by first | exact ev_local (by assumption) rfl rfl rfl | exact ev_cell' (by assumption) rfl rfl rfl rfl) evp_none (evp_some ev_int) (by have := hw x hx; omega)) (by first | exact ev_local (by assumption) rfl rfl rfl | exact ev_cell' (by assumption) rfl rfl rfl rfl) (op_in_rows hA') rfl, (by first | exact ev_local (by assumption) rfl rfl rfl | exact ev_cell' (by assumption) rfl rfl rfl rfl)⟩
      · rw [List.length_map]; have := List.length_filter_le (fun x => decide (cut none (some 1) x ∈ firsts s)) r; omega
      · have e : (r.filter fun x => decide (cut none (some 1) x ∈ firsts s)) = aheadP s r := by unfold aheadP; congr 1; funext x; rw [decide_eq_decide]; exact mem_firsts s _
        rw [e] at q; exact q

theorem c_behind (G : Gnd g mg mb) (hA : Room 5 A) {a : Addr} (ha : mg Fbehind.name = some (.ref a)) {r s : List (List Int)} (hz : s.length ≤ 100000) (hz' : r.length ≤ 100000) (hw : ∀ x ∈ r, x.length ≤ 1000) :
    Cl prog w g A X (.ref a) [rowsT r, rowsT s] (rowsT (behindP r s)) := by
  refine cl_def G (d := Fbehind) (by simp [recs]) ha (k := 4) (names := ["r", "s"]) hA rfl (fun _ _ _ vs h => ?_) rfl (by decide) rfl rfl rfl fun L cd X' H hA' => ?_
  · match vs, h with
    | [v, u], _ => rfl
  · refine bg_assign H (fun _ h => h) stj_true (r := .rows (firsts s)) ?_ (.inr ⟨rfl, _, rfl⟩) rfl ?_
    · refine ev_call (by assumption) (by exact ev_boot (by assumption) (by assumption) (by simp [bnames]) rfl rfl rfl) (.inr (.inl ⟨_, rfl⟩)) (evl_cons (r := .list (List.map (fun r => AV.tup [row r, .bool true]) _)) ?_ rfl evl_nil) (cl_dict_rows hA' (by assumption) G.sy) rfl
      refine ev_cp (by assumption) (Room.hh hA') (cp_map (enc := row) (bd := fun r => [("one", row r)]) (fun _ => rfl) rfl rfl (by decide) (by first | exact ev_local (by assumption) rfl rfl rfl | exact ev_cell' (by assumption) rfl rfl rfl rfl) (.tup _) (by assumption) fun C Y HC x hx => ⟨asg_nm HC rfl, sub_cons rfl, ev_tuple HC (evl_cons (by first | exact ev_local (by assumption) rfl rfl rfl | exact ev_cell' (by assumption) rfl rfl rfl rfl) rfl (evl_cons ev_bool rfl evl_nil)) (by simp)⟩)
    · refine bg_ret stj_true (ev_call H (by exact ev_boot (by assumption) (by assumption) (by simp [bnames]) rfl rfl rfl) (.inr (.inl ⟨_, rfl⟩)) (evl_cons (r := .list ((r.filter fun x => decide (cut (some (-1)) none x ∈ firsts s)).map row)) (ev_cp H hA'.hh (cp_filter (xs := r) (enc := row) (f := row) (bd := fun x => [("one", row x), ("known", .rows (firsts s))]) (src := rowsT r) (fun _ => rfl) rfl rfl (by decide) (by first | exact ev_local (by assumption) rfl rfl rfl | exact ev_cell' (by assumption) rfl rfl rfl rfl) (.tup _) hz' ?_)) rfl evl_nil) (cl_tuple ?_) rfl) fun h v S _ q => ⟨v, rfl, ?_⟩
      · intro C Y HC x hx
        exact ⟨asg_nm HC rfl, sub_cons rfl, tr_cmp HC (ev_cut HC (by first | exact ev_local (by assumption) rfl rfl rfl | exact ev_cell' (by assumption) rfl rfl rfl rfl) (evp_some (ev_neg ev_int rfl)) evp_none (by have := hw x hx; omega)) (by first | exact ev_local (by assumption) rfl rfl rfl | exact ev_cell' (by assumption) rfl rfl rfl rfl) (op_in_rows hA') rfl, (by first | exact ev_local (by assumption) rfl rfl rfl | exact ev_cell' (by assumption) rfl rfl rfl rfl)⟩
      · rw [List.length_map]; have := List.length_filter_le (fun x => decide (cut (some (-1)) none x ∈ firsts s)) r; omega
      · have e : (r.filter fun x => decide (cut (some (-1)) none x ∈ firsts s)) = behindP r s := by unfold behindP; congr 1; funext x; rw [decide_eq_decide]; exact mem_firsts s _
        rw [e] at q; exact q

theorem c_known (G : Gnd g mg mb) (hA : Room 5 A) {a : Addr} (ha : mg Flaw_known.name = some (.ref a)) {S : List (List Int)} (hz : S.length ≤ 100000) : Cl prog w g A X (.ref a) [rowsL S] (.rows (firsts S)) := by
  refine cl_def G (d := Flaw_known) (by simp [recs]) ha (k := 4) (names := ["some"]) hA rfl (fun _ _ _ vs h => ?_) rfl (by decide) rfl rfl rfl fun L cd X' H hA' => ?_
  · match vs, h with
    | [v], _ => rfl
  · refine bg_ret stj_true (ev_call H (by exact ev_boot (by assumption) (by assumption) (by simp [bnames]) rfl rfl rfl) (.inr (.inl ⟨_, rfl⟩)) (evl_cons (r := .list (S.map fun r => .tup [row r, .bool true])) ?_ rfl evl_nil) (cl_dict_rows hA' hz G.sy) rfl) fun h v S _ r => ⟨v, rfl, r⟩
    exact ev_cp H hA'.hh (cp_map (xs := S) (enc := row) (src := rowsL S) (bd := fun r => [("row", row r)]) (fun _ => rfl) rfl rfl (by decide) (by first | exact ev_local (by assumption) rfl rfl rfl | exact ev_cell' (by assumption) rfl rfl rfl rfl) (.list _) hz fun C Y HC x hx =>
        ⟨asg_nm HC rfl, sub_cons rfl, ev_tuple HC (evl_cons (by first | exact ev_local (by assumption) rfl rfl rfl | exact ev_cell' (by assumption) rfl rfl rfl rfl) rfl (evl_cons ev_bool rfl evl_nil)) (by simp)⟩)

/- a chained comparison, tested -/
theorem tr_chain {x y z : Expr} {p q r : Int} {pos} (H : Fm g env X) (hx : Ev prog w g A env X σ x (.int p)) (hy : Ev prog w g A env X σ y (.int q)) (hz : Ev prog w g A env X σ z (.int r)) (hm : lastMarks [.LtE, .LtE] [y, z] = false) :
    Tr prog w g A env X σ (.Compare x [.LtE, .LtE] [y, z] pos) (decide (p ≤ q) && decide (q ≤ r)) := fun s S => by
  refine isTrue_chain (wpAny_mono (hx s S) (fun u s₁ ⟨k₁, r₁⟩ => test_link (wpAny_mono (hy s₁ (S.ks k₁)) (fun v s₂ ⟨k₂, r₂⟩ => ?_) fun _ _ e => e.elim)) fun _ _ e => e.elim) hm
  have S₂ := (S.ks k₁).ks k₂
  refine wpAny_mono (op_le (prog := prog) (w := w) (g := g) (A := A) (X := X) s₂ u v S₂.kg (live_of H S₂) (rel_ks r₁ k₂) r₂) (fun c s₃ ⟨k₃, r₃⟩ => ?_) fun _ _ e => e.elim
  simp only [Rel] at r₃
  subst r₃
  refine wpAny_truthy_bool ?_
  have k03 := keeps_trans (keeps_trans k₁ k₂) k₃
  cases hpq : decide (p ≤ q) with
  | false => exact ⟨k03, by simp⟩
  | true =>
    rw [if_pos rfl]
    refine test_last (wpAny_mono (hz s₃ (S₂.ks k₃)) (fun v' s₄ ⟨k₄, r₄⟩ => ?_) fun _ _ e => e.elim)
    have S₄ := (S₂.ks k₃).ks k₄
    refine wpAny_mono (op_le (prog := prog) (w := w) (g := g) (A := A) (X := X) s₄ v v' S₄.kg (live_of H S₄) (rel_ks (rel_ks r₂ k₃) k₄) r₄) (fun c s₅ ⟨k₅, r₅⟩ => ?_) fun _ _ e => e.elim
    simp only [Rel] at r₅
    subst r₅
    exact wpAny_truthy_bool ⟨keeps_trans (keeps_trans k03 k₄) k₅, by simp⟩

noncomputable def fitsP (word a b : Int) : Int :=
  if word = 3 then (if 3 ≤ a + b ∧ a + b ≤ 5 then a + b - 2 else 0)
  else if word = 4 then (if a + b ≤ 3 then a + b else 0)
  else if word = 5 ∨ word = 6 ∨ word = 7 then (if a = 2 then 2 else 0)
  else if word = 9 then (if a = 1 then b else 0)
  else if word = 10 then (if b = 1 then a else 0)
  else (if a = b then a else 0)

theorem c_fits (G : Gnd g mg mb) (hA : Room 5 A) {f : Addr} (ha : mg Flaw_fits.name = some (.ref f)) {word a b : Int} : Cl prog w g A X (.ref f) [.int word, .int a, .int b] (.int (fitsP word a b)) := by
  refine cl_def G (d := Flaw_fits) (by simp [recs]) ha (k := 4) (names := ["word", "a", "b"]) hA rfl (fun _ _ _ vs h => ?_) rfl (by decide) rfl rfl rfl fun L cd X' H hA' => ?_
  · match vs, h with
    | [v, u, x], _ => rfl
  · have fin : ∀ {h : Heap} {v : Value} {b : Bool} {i j z : Int}, Rel X' h (if b = true then AV.int i else .int j) v → (if b = true then i else j) = z → Rel X' h (.int z) v := fun {h v b i j z} r e => by
      subst e; cases b <;> exact r
    refine bg_if rt_next stj_true (b := decide (word = 3)) (tr_cmp H (by first | exact ev_local (by assumption) rfl rfl rfl | exact ev_cell' (by assumption) rfl rfl rfl rfl) ev_int op_eq rfl) (fun h1 => ?_) fun h1 => ?_
    · exact bg_ret stj_true (ev_ite (tr_chain H ev_int (ev_bin H (by first | exact ev_local (by assumption) rfl rfl rfl | exact ev_cell' (by assumption) rfl rfl rfl rfl) (by first | exact ev_local (by assumption) rfl rfl rfl | exact ev_cell' (by assumption) rfl rfl rfl rfl) op_add) ev_int rfl) (fun _ => ev_bin H (ev_bin H (by first | exact ev_local (by assumption) rfl rfl rfl | exact ev_cell' (by assumption) rfl rfl rfl rfl) (by first | exact ev_local (by assumption) rfl rfl rfl | exact ev_cell' (by assumption) rfl rfl rfl rfl) op_add) ev_int op_sub) fun _ => ev_int) fun h v S _ r => ⟨v, rfl, fin r (by
        unfold fitsP; rw [if_pos (of_decide_eq_true h1)]; simp only [Bool.and_eq_true, decide_eq_true_eq])⟩
    refine bg_if rt_next stj_true (b := decide (word = 4)) (tr_cmp H (by first | exact ev_local (by assumption) rfl rfl rfl | exact ev_cell' (by assumption) rfl rfl rfl rfl) ev_int op_eq rfl) (fun h2 => ?_) fun h2 => ?_
    · exact bg_ret stj_true (ev_ite (tr_cmp H (ev_bin H (by first | exact ev_local (by assumption) rfl rfl rfl | exact ev_cell' (by assumption) rfl rfl rfl rfl) (by first | exact ev_local (by assumption) rfl rfl rfl | exact ev_cell' (by assumption) rfl rfl rfl rfl) op_add) ev_int op_le rfl) (fun _ => ev_bin H (by first | exact ev_local (by assumption) rfl rfl rfl | exact ev_cell' (by assumption) rfl rfl rfl rfl) (by first | exact ev_local (by assumption) rfl rfl rfl | exact ev_cell' (by assumption) rfl rfl rfl rfl) op_add) fun _ => ev_int) fun h v S _ r => ⟨v, rfl, fin r (by
        unfold fitsP; rw [if_neg (of_decide_eq_false h1), if_pos (of_decide_eq_true h2)]; simp only [decide_eq_true_eq])⟩
    refine bg_if rt_next stj_true (b := decide (word ∈ [(5 : Int), 6, 7])) (tr_cmp H (by first | exact ev_local (by assumption) rfl rfl rfl | exact ev_cell' (by assumption) rfl rfl rfl rfl) (ev_tuple H (evl_cons ev_int rfl (evl_cons ev_int rfl (evl_cons ev_int rfl evl_nil))) (by simp)) (op_in_row (r := [5, 6, 7])) rfl) (fun h3 => ?_) fun h3 => ?_
    · exact bg_ret stj_true (ev_ite (tr_cmp H (by first | exact ev_local (by assumption) rfl rfl rfl | exact ev_cell' (by assumption) rfl rfl rfl rfl) ev_int op_eq rfl) (fun _ => ev_int) fun _ => ev_int) fun h v S _ r => ⟨v, rfl, fin r (by
        unfold fitsP; rw [if_neg (of_decide_eq_false h1), if_neg (of_decide_eq_false h2), if_pos (show word = 5 ∨ word = 6 ∨ word = 7 by simpa using h3)]; simp only [decide_eq_true_eq])⟩
    refine bg_if rt_next stj_true (b := decide (word = 9)) (tr_cmp H (by first | exact ev_local (by assumption) rfl rfl rfl | exact ev_cell' (by assumption) rfl rfl rfl rfl) ev_int op_eq rfl) (fun h4 => ?_) fun h4 => ?_
    · exact bg_ret stj_true (ev_ite (tr_cmp H (by first | exact ev_local (by assumption) rfl rfl rfl | exact ev_cell' (by assumption) rfl rfl rfl rfl) ev_int op_eq rfl) (fun _ => (by first | exact ev_local (by assumption) rfl rfl rfl | exact ev_cell' (by assumption) rfl rfl rfl rfl)) fun _ => ev_int) fun h v S _ r => ⟨v, rfl, fin r (by
        unfold fitsP; rw [if_neg (of_decide_eq_false h1), if_neg (of_decide_eq_false h2), if_neg (show ¬ (word = 5 ∨ word = 6 ∨ word = 7) by simpa using h3), if_pos (of_decide_eq_true h4)]; simp only [decide_eq_true_eq])⟩
    refine bg_if rt_next stj_true (b := decide (word = 10)) (tr_cmp H (by first | exact ev_local (by assumption) rfl rfl rfl | exact ev_cell' (by assumption) rfl rfl rfl rfl) ev_int op_eq rfl) (fun h5 => ?_) fun h5 => ?_
    · exact bg_ret stj_true (ev_ite (tr_cmp H (by first | exact ev_local (by assumption) rfl rfl rfl | exact ev_cell' (by assumption) rfl rfl rfl rfl) ev_int op_eq rfl) (fun _ => (by first | exact ev_local (by assumption) rfl rfl rfl | exact ev_cell' (by assumption) rfl rfl rfl rfl)) fun _ => ev_int) fun h v S _ r => ⟨v, rfl, fin r (by
        unfold fitsP; rw [if_neg (of_decide_eq_false h1), if_neg (of_decide_eq_false h2), if_neg (show ¬ (word = 5 ∨ word = 6 ∨ word = 7) by simpa using h3), if_neg (of_decide_eq_false h4), if_pos (of_decide_eq_true h5)]; simp only [decide_eq_true_eq])⟩
    exact bg_ret stj_true (ev_ite (tr_cmp H (by first | exact ev_local (by assumption) rfl rfl rfl | exact ev_cell' (by assumption) rfl rfl rfl rfl) (by first | exact ev_local (by assumption) rfl rfl rfl | exact ev_cell' (by assumption) rfl rfl rfl rfl) op_eq rfl) (fun _ => (by first | exact ev_local (by assumption) rfl rfl rfl | exact ev_cell' (by assumption) rfl rfl rfl rfl)) fun _ => ev_int) fun h v S _ r => ⟨v, rfl, fin r (by
        unfold fitsP; rw [if_neg (of_decide_eq_false h1), if_neg (of_decide_eq_false h2), if_neg (show ¬ (word = 5 ∨ word = 6 ∨ word = 7) by simpa using h3), if_neg (of_decide_eq_false h4), if_neg (of_decide_eq_false h5)]; simp only [decide_eq_true_eq])⟩
end
end Mine
end

section
open PySem PySem.W PyProof.Rows
set_option Elab.async false
set_option maxRecDepth 100000
set_option linter.unusedVariables false
namespace Mine
section
variable {prog : Program} {w : World} {g : Heap} {mg mb : Str → Option Value} {A : Around} {env : Env} {X X' Z : Addr → Prop} {σ σ' : List (Str × AV)} {E : Value → Shared → Prop} {J : Heap → Prop} {R : Flow → Heap → Prop}

variable (prog w g A env X σ J) in
noncomputable def EvJ (e : Expr) (r : AV) : Prop := ∀ s : Shared, St g env X σ s.heap → J s.heap → wpAny (model prog w) A (eval e env) (fun v s' => Keeps s s' ∧ Rel X s'.heap r v) F0 s
variable (prog w g A env X σ J) in
noncomputable def TrJ (e : Expr) (b : Bool) : Prop := ∀ s : Shared, St g env X σ s.heap → J s.heap → wpAny (model prog w) A (isTrue e env (eval e env)) (fun c s' => Keeps s s' ∧ c = b) F0 s
theorem ev_j {e r} (h : Ev prog w g A env X σ e r) : EvJ prog w g A env X σ J e r := fun s S _ => h s S
theorem tr_j {e r} (h : Tr prog w g A env X σ e r) : TrJ prog w g A env X σ J e r := fun s S _ => h s S

theorem bg_while {ι : Type} {σf : ι → List (Str × AV)} {Jf : ι → Heap → Prop} {μ : ι → Nat} {tb : ι → Bool} {test : Expr} {body rest : List Stmt} {pos : Pos} (hJ : ∀ i, StJ env (Jf i)) (ht : ∀ i, TrJ prog w g A env X (σf i) (Jf i) test (tb i))
    (hb : ∀ i, tb i = true → Bg prog w g A env X Z (σf i) (Jf i) body (fun f h => f = .next ∧ ∃ i', μ i' < μ i ∧ St g env X (σf i') h ∧ Jf i' h))
    (hr : ∀ i, tb i = false → Bg prog w g A env X Z (σf i) (Jf i) rest R) (i : ι) : Bg prog w g A env X Z (σf i) (Jf i) (.While test body [] pos :: rest) R := fun s S j => by
  refine wpAny_execs_cons (wpAny_While (codeAny_mono (codeAny_whileLoop (R := fun r s' => r = .ok .next ∧ ∃ i, tb i = false ∧ KeepsX Z s s' ∧ St g env X (σf i) s'.heap ∧ Jf i s'.heap)
    (fun n s' => ∃ i, n = μ i ∧ KeepsX Z s s' ∧ St g env X (σf i) s'.heap ∧ Jf i s'.heap) (fun n s₁ ⟨i, hn, k, S₁, j₁⟩ => ?_) (μ i) ⟨i, rfl, .refl _ _, S, j⟩) fun r s₁ ⟨er, i, hi, k, S₁, j₁⟩ => ?_))
  · subst hn
    refine wpAny_mono (ht i s₁ S₁ j₁) (fun c s₂ ⟨k₂, ec⟩ => ?_) fun _ _ e => e.elim
    subst ec
    have j₂ := hJ i _ _ (keeps_kp k₂).x j₁
    cases hc : tb i with
    | true =>
      rw [if_pos rfl]
      refine wpAny_mono (hb i hc s₂ (S₁.ks k₂) j₂) (fun f s₃ ⟨k₃, ef, i', hm, S₃, j₃⟩ => ?_) fun _ _ e => e.elim
      subst ef
      exact ⟨μ i', hm, i', rfl, (k.trans (keeps_x k₂)).trans k₃, S₃, j₃⟩
    | false =>
      rw [if_neg (by simp)]
      exact wpAny_execs_nil ⟨rfl, i, hc, k.trans (keeps_x k₂), S₁.ks k₂, j₂⟩
  · subst er
    exact wpAny_mono (hr i hi s₁ S₁ j₁) (fun f s₂ ⟨k₂, q⟩ => ⟨k.trans k₂, q⟩) fun _ _ e => e

theorem bg_for {α : Type} {xs : List α} {enc : α → AV} {x : Str} {px pos : Pos} {iter : Expr} {src : AV} {body rest : List Stmt} {σf : Nat → List (Str × AV)} {Jf : (Addr → Prop) → Nat → Heap → Prop} {Mut : Addr → Prop}
    (H : Fm g env X) (hh : A.handled = none) (hs : ∀ x, foldedSetIterable iter env x = pure x) (hit : Ev prog w g A env X σ iter src) (hsrc : Iters src (xs.map enc)) (hx : env.kindOf x = some .local ∨ env.kindOf x = some .cell ∧ ∃ c, env.cells.lookup x = some c)
    (hZ : ∀ b, Own env b → Z b) (hZX : ∀ b, Z b → X b) (hMX : ∀ b, Mut b → X b) (hMO : ∀ b, Mut b → ¬ Own env b)
    (hmv : ∀ (X X' : Addr → Prop) k h h', Jf X k h → Move X h X' h' → (∀ b o, Mut b → h.get? b = some o → h'.get? b = some o) → Jf X' k h')
    (h0 : ∀ y, (σf 0).lookup y = none ∨ (σf 0).lookup y = σ.lookup y) (hj0 : ∀ h, St g env X σ h → J h → Jf X 0 h)
    (hb : ∀ I, ¬ X I → Fm g env (fun b => X b ∨ b = I) → ∀ k a, xs[k]? = some a → Bg prog w g A env (fun b => X b ∨ b = I) Z ((x, enc a) :: σf k) (Jf (fun b => X b ∨ b = I) k) body (fun f h => f = .next ∧ St g env (fun b => X b ∨ b = I) (σf (k + 1)) h ∧ Jf (fun b => X b ∨ b = I) (k + 1) h))
    (hr : Bg prog w g A env X Z (σf xs.length) (Jf X xs.length) rest R) : Bg prog w g A env X Z σ J (.For (.Name x px) iter body [] pos :: rest) R := fun s S j => by
  refine wpAny_execs_cons (wpAny_For (wpAny_mono (hit s S) (fun xv s₁ ⟨k₁, r₁⟩ => wpAny_mono (iter_src (A' := A) hh hsrc r₁) (fun it s₂ ⟨k₂, e₂, it₂, oI⟩ => ?_) fun _ _ e => e.elim) fun _ _ e => e.elim) hs)
  subst e₂
  have k02 := keeps_trans k₁ k₂
  have S₁ := S.ks k₁
  generalize hI : s₁.heap.objs.size = I at it₂ oI ⊢
  have fr : s₁.heap.get? I = none := Heap.get?_none_of_le (Nat.le_of_eq hI)
  have fr0 : s.heap.get? I = none := none_of (keeps_kp k₁) fr
  have hIX : ¬ X I := fun hb => by obtain ⟨o, ho⟩ := S.lv _ hb; rw [fr0] at ho; cases ho
  have hIO : ¬ Own env I := fun hb => hIX (own_x H hb)
  have M : Move X s.heap (fun b => X b ∨ b = I) s₂.heap := fun b o hb e => ⟨fun q => q.elim hb fun q => (by rw [q, fr0] at e; cases e), keeps_kp k02 b o e⟩
  have S₂ : St g env (fun b => X b ∨ b = I) (σf 0) s₂.heap := (S.sub h0).move M (S.kg.trans (keeps_kp k02)) (fun b o _ e => keeps_kp k02 b o e) fun b hb => hb.elim (fun q => let ⟨o, ho⟩ := S.lv b q; ⟨o, keeps_kp k02 b o ho⟩) fun q => q ▸ oI
  have H₂ : Fm g env (fun b => X b ∨ b = I) := H.mono (fun b hb => .inl hb) fun b hb => hb.elim (H.xg b) fun q => q ▸ none_of S.kg fr0
  have j₂ : Jf (fun b => X b ∨ b = I) 0 s₂.heap := hmv _ _ _ _ _ (hj0 _ S j) M fun b o _ e => keeps_kp k02 b o e
  have xg : ∀ b, (X b ∨ b = I) → g.get? b = none := H₂.xg
  refine codeAny_mono (codeAny_forLoop (R := fun r s' => r = .ok .next ∧ KeepsX (fun b => Z b ∨ b = I) s₂ s' ∧ St g env X (σf xs.length) s'.heap ∧ Jf X xs.length s'.heap)
    (fun n s' => ∃ k, n = xs.length - k ∧ k ≤ xs.length ∧ KeepsX (fun b => Z b ∨ b = I) s₂ s' ∧ St g env (fun b => X b ∨ b = I) (σf k) s'.heap ∧ IterAt prog w A (fun b => X b ∨ b = I) s'.heap I (xs.map enc) k ∧ Jf (fun b => X b ∨ b = I) k s'.heap)
    (fun n s₃ hI => ?_) xs.length ⟨0, rfl, Nat.zero_le _, .refl _ _, S₂, it₂, j₂⟩) fun r s₃ ⟨er, k₃, S₃, j₃⟩ => ?_
  · obtain ⟨k, rfl, hk, kk, S₃, it₃, j₃⟩ := hI
    refine iter_next it₃ (.inr rfl) (by simpa using hk) (fun a v s₄ ha k₄ r₄ it₄ => ?_) fun s₄ he k₄ => ?_
    · rw [List.getElem?_map] at ha
      obtain ⟨y, hy, rfl⟩ := Option.map_eq_some_iff.mp ha
      have hlt : k < xs.length := (List.getElem?_eq_some_iff.mp hy).1
      have S₄ : St g env (fun b => X b ∨ b = I) (σf k) s₄.heap := S₃.kx H₂ k₄ fun b hb => ⟨.inr hb, hb ▸ hIO, let ⟨o, ho, _⟩ := it₄.ok; ⟨o, hb ▸ ho⟩⟩
      have j₄ : Jf (fun b => X b ∨ b = I) k s₄.heap := hmv _ _ _ _ _ j₃ (k₄.kp.mono (Z' := fun b => X b ∨ b = I) fun b hb => .inr hb).move fun b o hm e => k₄.kp b o (fun q => hIX (q ▸ hMX b hm)) e
      refine wpAny_assign_Name (store_name' H₂ S₄ r₄ hx fun s₅ k₅ S₅ => ?_)
      have j₅ : Jf (fun b => X b ∨ b = I) k s₅.heap := hmv _ _ _ _ _ j₄ (k₅.kp.mono (Z' := fun b => X b ∨ b = I) fun b hb => .inl (own_x H (slot_own hb))).move fun b o hm e => k₅.kp b o (fun q => hMO b hm (slot_own q)) e
      refine wpAny_mono (hb I hIX H₂ k y hy s₅ S₅ j₅) (fun f s₆ ⟨k₆, ef, S₆, j₆⟩ => ?_) fun _ _ e => e.elim
      subst ef
      refine ⟨xs.length - (k + 1), by omega, k + 1, rfl, hlt, ((kk.trans (k₄.mono fun b hb => .inr hb)).trans (k₅.mono fun b hb => .inl (hZ b (slot_own hb)))).trans (k₆.mono fun b hb => .inl hb), S₆, ?_, j₆⟩
      have k46 : KeepsX Z s₄ s₆ := (k₅.mono fun b hb => hZ b (slot_own hb)).trans k₆
      exact it₄.move (k46.kp.mono (Z' := fun b => X b ∨ b = I) fun b hb => .inl (hZX b hb)).move fun o e => k46.kp _ o (fun q => hIX (hZX _ q)) e
    · have e : k = xs.length := by simpa using he.symm
      subst e
      have M' : Move (fun b => X b ∨ b = I) s₃.heap X s₄.heap := fun b o hb ho => ⟨fun q => hb (.inl q), k₄.kp b o (fun q => hb (.inr q)) ho⟩
      refine wpAny_execs_nil ⟨rfl, kk.trans (k₄.mono fun b hb => .inr hb), S₃.move M' (fun b o ho => k₄.kp b o (fun q => ?_) (S₃.kg b o ho)) (fun b o hb ho => k₄.kp b o (fun q => hIO (q ▸ hb)) ho) (fun b hb => ?_), hmv _ _ _ _ _ j₃ M' fun b o hm e => k₄.kp b o (fun q => hIX (q ▸ hMX b hm)) e⟩
      · have := H₂.xg b (.inr q); rw [ho] at this; cases this
      · obtain ⟨o, ho⟩ := S₃.lv b (.inl hb)
        exact ⟨o, k₄.kp b o (fun q => hIX (q ▸ hb)) ho⟩
  · subst er
    have k03 : KeepsX Z s s₃ := by
      obtain ⟨h₂, t₂, rfl, q₂⟩ := k02
      obtain ⟨h₃, t₃, rfl, q₃⟩ := k₃
      exact ⟨h₃, t₃, rfl, fun b o hb e => q₃ b o (fun q => q.elim hb fun q => by rw [q, fr0] at e; cases e) (q₂ b o e)⟩
    exact wpAny_mono (hr s₃ S₃ j₃) (fun f s₄ ⟨k₄, q⟩ => ⟨k03.trans k₄, q⟩) fun _ _ e => e
end
end Mine
end

section
open PySem PySem.W PyProof.Rows
set_option Elab.async false
set_option maxRecDepth 100000
set_option linter.unusedVariables false
namespace Mine
section
variable {prog : Program} {w : World} {g : Heap} {mg mb : Str → Option Value} {A : Around} {env : Env} {X X' Y Z : Addr → Prop} {σ σ' : List (Str × AV)} {E : Value → Shared → Prop} {J : Heap → Prop} {R : Flow → Heap → Prop}

theorem IsRowsL.move' {h h' : Heap} {a : Addr} {S} (x : IsRowsL X h a S) (ha : ∀ o, h.get? a = some o → h'.get? a = some o) (M : Move X h X' h') : IsRowsL X' h' a S := by
  obtain ⟨vs, n, ho, hz, hr⟩ := x
  refine ⟨vs, n, ha _ ho, hz, fun i v hv => ?_⟩
  obtain ⟨b, r, rfl, hs, hb, us, k, hg, hi⟩ := hr i v hv
  exact ⟨b, r, rfl, hs, (M _ _ hb hg).1, us, k, (M _ _ hb hg).2, hi⟩

theorem list_nil {p : Pos} {s : Shared} {Q : Value → Shared → Prop} (h : Q (.ref s.heap.objs.size) { s with heap := s.heap.push { cls := .type "list", data := .seq #[] } }) : wpAny (model prog w) A (eval (.List [] p) env) Q E s := by
  show wpAny (model prog w) A (do standAt p; newList (← spliced (backTo p (starEach [] env)))) _ _ s
  refine wpAny_bind (wpAny_standAt (wpAny_bind (Calls.spliced_nil ?_)))
  exact wpAny_newList h (by rw [sizeLine_eq]; simp)

theorem rowsL_push {s : Shared} {a b : Addr} {S : List (List Int)} {r : List Int} (ha : Y a) (x : IsRowsL Y s.heap a S) (hb : ¬ Y b) (hr : IsRow s.heap b r) (hz : S.length ≤ 100000) {Q : Value → Shared → Prop}
    (h : ∀ s', KeepsX (· = a) s s' → (∃ o, s'.heap.get? a = some o) → IsRowsL Y s'.heap a (S ++ [r]) → Q .none s') : wpAny (model prog w) A (call (.builtin "list.append") [.ref a, .ref b]) Q E s := by
  obtain ⟨vs, n, ho, hsz, hv⟩ := x
  refine wpAny_list_append_plain (items := vs) (hsz := by rw [sizeLine_eq]; omega) ⟨n, ho⟩ fun h' p' hs' => ?_
  have kx : KpX (· = a) s.heap h' := fun b o hb e => hs'.extBut b o hb e
  have M : Move Y s.heap Y h' := (kx.mono fun b hb => hb ▸ ha).move
  obtain ⟨n', p'⟩ := p'
  refine h _ ⟨h', s.toks, rfl, kx⟩ ⟨_, p'⟩ ⟨vs.push (.ref b), n', p', by simp [hsz], fun i v hi => ?_⟩
  rw [Array.getElem?_push] at hi
  split at hi
  · rename_i e
    cases hi
    refine ⟨b, r, rfl, ?_, hb, hr.move fun o e => (M _ _ hb e).2⟩
    rw [e, hsz]; simp
  · rename_i e
    obtain ⟨b', r', rfl, h1, h2, h3⟩ := hv i v hi
    have : i < S.length := by
      have := (List.getElem?_eq_some_iff.mp h1).1
      exact this
    refine ⟨b', r', rfl, by rw [List.getElem?_append_left this]; exact h1, h2, ?_⟩
    obtain ⟨us, m, h4, h5⟩ := h3
    exact ⟨us, m, (M _ _ h2 h4).2, h5⟩

/-- begun.setdefault(key, []).append(row) -/
theorem join_turn {o ek er : Expr} {ap1 p1 lp ap2 p2 pos : Pos} {s : Shared} {d : Addr} {f : Int → Option Value} {n : Nat} {c : Int} {r : List Int} {S : List (List Int)}
    (H : Fm g env Y) (St0 : St g env Y σ s.heap) (ho : Ev prog w g A env Y σ o (.val (.ref d))) (hk : Ev prog w g A env Y σ ek (.int c)) (hr : ∀ Y', Fm g env Y' → Ev prog w g A env Y' σ er (row r))
    (D : IntsLe s.heap d f n) (hn : n ≤ 100000) (hdY : Y d) (hdO : ¬ Own env d) (hds : d ≠ sysModules) (hS : S.length ≤ 100000)
    (hf : (f c = none ∧ S = []) ∨ ∃ a, f c = some (.ref a) ∧ Y a ∧ a ≠ d ∧ ¬ Own env a ∧ IsRowsL Y s.heap a S)
    (hi : interactive env = false) (hsw : swapsWith (.Call (.Attribute (.Call (.Attribute o "setdefault" ap1) [ek, .List [] lp] [] p1) "append" ap2) [er] [] p2) none pos.line env = pure false)
    (b1 : attributeBase o "setdefault" env (eval o env) = eval o env) (l1 : (ap1.endLine == p1.line) = true)
    (b2 : attributeBase (.Call (.Attribute o "setdefault" ap1) [ek, .List [] lp] [] p1) "append" env (eval (.Call (.Attribute o "setdefault" ap1) [ek, .List [] lp] [] p1) env) = eval (.Call (.Attribute o "setdefault" ap1) [ek, .List [] lp] [] p1) env) (l2 : (ap2.endLine == p2.line) = true)
    (t1 : backTo p1 (starEach [ek, .List [] lp] env) = [(false, eval ek env), (false, eval (.List [] lp) env)]) (t2 : backTo p2 (starEach [er] env) = [(false, eval er env)]) :
    wpAny (model prog w) A (exec (.Expr (.Call (.Attribute (.Call (.Attribute o "setdefault" ap1) [ek, .List [] lp] [] p1) "append" ap2) [er] [] p2) pos) env)
      (fun fl s' => fl = .next ∧ ∃ a, KeepsX (fun b => b = d ∨ b = a) s s' ∧ Fm g env (fun b => Y b ∨ b = a) ∧ St g env (fun b => Y b ∨ b = a) σ s'.heap ∧ IntsLe s'.heap d (fun x => if x = c then some (.ref a) else f x) (n + 1) ∧
        (f c = some (.ref a) ∨ (f c = none ∧ s.heap.get? a = none)) ∧ a ≠ d ∧ ¬ Own env a ∧ IsRowsL (fun b => Y b ∨ b = a) s'.heap a (S ++ [r])) F0 s := by
  refine wpAny_Expr_any (wpAny_Call_append b2 (by rw [t2]; rfl) l2 t2 ?_) hi hsw
  -- what stands after setdefault
  have mid : wpAny (model prog w) A (eval (.Call (.Attribute o "setdefault" ap1) [ek, .List [] lp] [] p1) env) (fun v s' => ∃ a, v = .ref a ∧ KeepsX (· = d) s s' ∧ Fm g env (fun b => Y b ∨ b = a) ∧ St g env (fun b => Y b ∨ b = a) σ s'.heap ∧
      IntsLe s'.heap d (fun x => if x = c then some (.ref a) else f x) (n + 1) ∧ (f c = some (.ref a) ∨ (f c = none ∧ s.heap.get? a = none)) ∧ a ≠ d ∧ ¬ Own env a ∧ IsRowsL (fun b => Y b ∨ b = a) s'.heap a S) F0 s := by
    refine wpAny_Call_method (T := "dict") (id := "dict.setdefault") b1 (by rw [t1]; rfl) l1 PySem.F.plainAttrs_dict PySem.F.slot_dict_setdefault PySem.F.type_dict_setdefault (wpAny_mono (ho s St0) (fun v s₁ ⟨k₁, r₁⟩ => ?_) fun _ _ e => e)
    simp only [Rel] at r₁
    subst r₁
    have D₁ := D.move (fun o e => keeps_kp k₁ _ o e)
    obtain ⟨⟨es, ep, hod, _⟩, _⟩ := id D₁
    refine ⟨⟨_, hod, rfl⟩, fun a e => by cases e; exact ⟨_, hod, rfl⟩, ?_⟩
    have St1 := St0.ks k₁
    rw [t1]
    refine Calls.callWith_builtin rfl (Calls.evalArgs_plain (Calls.spliced_cons (wpAny_mono (hk s₁ St1) (fun v s₂ ⟨k₂, r₂⟩ => Calls.spliced_cons (list_nil (Calls.spliced_nil ?_))) fun _ _ e => e.elim)))
    simp only [Rel] at r₂
    obtain ⟨t, rfl⟩ := r₂
    have St2 := St1.ks k₂
    have kL := keeps_push s₂ { cls := .type "list", data := .seq #[] }
    have k02 := keeps_trans k₁ k₂
    have k03 := keeps_trans k02 kL
    generalize hL : s₂.heap.objs.size = L at kL ⊢
    have frL2 : s₂.heap.get? L = none := Heap.get?_none_of_le (Nat.le_of_eq hL)
    have frL : s.heap.get? L = none := none_of (keeps_kp k02) frL2
    have oL : (s₂.heap.push { cls := .type "list", data := .seq #[] }).get? L = some (seqObj "list" #[] 0) := hL ▸ Heap.get?_push_size _ rfl
    generalize hs3 : ({ s₂ with heap := s₂.heap.push { cls := .type "list", data := .seq #[] } } : Shared) = s₃ at kL k03 ⊢
    have oL : s₃.heap.get? L = some (seqObj "list" #[] 0) := hs3 ▸ oL
    have D₃ := D.move (fun o e => keeps_kp k03 _ o e)
    have hLd : L ≠ d := fun e => by obtain ⟨⟨es, ep, hod, _⟩, _⟩ := id D; rw [e, hod] at frL; cases frL
    have hLO : ¬ Own env L := fun hb => by obtain ⟨o, ho⟩ := St0.lv _ (own_x H hb); rw [frL] at ho; cases ho
    show wpAny (model prog w) A (call (.builtin "dict.setdefault") [.ref d, .int c t, .ref L]) _ _ s₃
    obtain ⟨⟨es3, ep3, hod3, _⟩, _⟩ := id D₃
    have hT : s₃.TypeIs (.ref d) "dict" := ⟨_, hod3, rfl⟩
    refine wpAny_call_entry PySem.F.slot_dict_setdefault hT PySem.F.entry_dict_setdefault ?_ (PySem.F.args_dict_setdefault_3 _ _ _)
    unfold Builtin.«dict.setdefault»
    refine wpAny_bind ?_
    unfold Builtin.Dict.keyAndDefault
    refine wpAny_bind (wpAny_notOrdered_dict hT ?_)
    show wpAny _ _ (pure (d, Value.int c t, some (Value.ref L))) _ _ s₃
    refine wpAny_pure ?_
    show wpAny _ _ (if (d == sysModules) = true then _ else (dictSetDefault d (.int c t) (.ref L) >>= _)) _ _ s₃
    rw [if_neg (by simpa using hds)]
    refine wpAny_bind (setDefault_ints D₃ hn (fun u hu => wpAny_pure ⟨_, rfl, ?_⟩) fun hnone s₄ k₄ D₄ => wpAny_pure ⟨_, rfl, ?_⟩)
    · rcases hf with ⟨e, _⟩ | ⟨a, ea, hYa, had, haO, hrows⟩
      · rw [e] at hu; cases hu
      · rw [ea] at hu; cases hu
        have kk : Keeps s { s₃ with toks := s₃.toks + 1 } := keeps_trans k03 (keeps_tok _ _)
        have eY : ∀ b, (Y b ∨ b = a) → Y b := fun b hb => hb.elim id fun e => e ▸ hYa
        have M : Move Y s.heap (fun b => Y b ∨ b = a) s₃.heap := fun b o hb e => ⟨fun q => hb (eY b q), keeps_kp kk b o e⟩
        have ef : (fun x => if x = c then some (.ref a) else f x) = f := by funext x; by_cases e : x = c <;> simp [e, ea]
        refine ⟨a, rfl, keeps_x kk, H.mono (fun b hb => .inl hb) fun b hb => H.xg b (eY b hb), St0.move M (St0.kg.trans (keeps_kp kk)) (fun b o _ e => keeps_kp kk b o e) fun b hb => ?_, by rw [ef]; exact ⟨D₃.1, D₃.2.mono (Nat.le_succ _)⟩, .inl ea, had, haO, hrows.move' (fun o e => keeps_kp kk _ o e) M⟩
        obtain ⟨o, ho⟩ := St0.lv b (eY b hb)
        exact ⟨o, keeps_kp kk b o ho⟩
    · have eS : S = [] := by
        rcases hf with ⟨_, e⟩ | ⟨a, ea, _⟩
        · exact e
        · rw [hnone] at ea; cases ea
      have k04 : KeepsX (· = d) s s₄ := (keeps_x k03).trans k₄
      have M : Move Y s.heap (fun b => Y b ∨ b = L) s₄.heap := fun b o hb e => ⟨fun q => q.elim hb fun q => (by rw [q, frL] at e; cases e), k04.kp b o (fun q => hb (q ▸ hdY)) e⟩
      have oL4 : s₄.heap.get? L = some (seqObj "list" #[] 0) := k₄.kp _ _ hLd oL
      refine ⟨L, rfl, k04, H.mono (fun b hb => .inl hb) fun b hb => hb.elim (H.xg b) fun q => q ▸ none_of St0.kg frL, St0.move M (fun b o e => k04.kp b o (fun q => ?_) (St0.kg b o e)) (fun b o hb e => k04.kp b o (fun q => hdO (q ▸ hb)) e) fun b hb => ?_, D₄, .inr ⟨hnone, frL⟩, hLd, hLO, ⟨#[], 0, oL4, by rw [eS]; rfl, fun i v hv => by simp at hv⟩⟩
      · have := H.xg b (q ▸ hdY); rw [e] at this; cases this
      · rcases hb with hb | hb
        · obtain ⟨o, ho⟩ := St0.lv b hb
          by_cases q : b = d
          · obtain ⟨⟨es4, ep4, hod4, _⟩, _⟩ := id D₄; exact ⟨_, q ▸ hod4⟩
          · exact ⟨o, k04.kp b o q ho⟩
        · exact ⟨_, hb ▸ oL4⟩
  refine wpAny_mono mid (fun v s₁ ⟨a, ev, k₁, H₁, S₁, D₁, hfa, had, haO, hrows⟩ => ?_) fun _ _ e => e
  subst ev
  obtain ⟨vs, m, hoa, hz, hv⟩ := id hrows
  refine ⟨a, vs, rfl, ⟨_, m, hoa, rfl, rfl, rfl⟩, wpAny_mono (hr _ H₁ s₁ S₁) (fun y s₂ ⟨k₂, r₂⟩ => ?_) fun _ _ e => e.elim⟩
  obtain ⟨b, rfl, hb, hrow⟩ := rel_row.mp r₂
  have S₂ := S₁.ks k₂
  refine rowsL_push (Y := fun b => Y b ∨ b = a) (.inr rfl) (hrows.move' (fun o e => keeps_kp k₂ _ o e) (keeps_kp k₂).move) hb hrow hS fun s₃ k₃ oa hrows₃ => ?_
  have S₃ : St g env (fun b => Y b ∨ b = a) σ s₃.heap := S₂.kx H₁ k₃ fun b hb => ⟨hb ▸ .inr rfl, hb ▸ haO, hb ▸ oa⟩
  refine ⟨rfl, a, ((k₁.mono fun b hb => .inl hb).trans (keeps_x k₂)).trans (k₃.mono fun b hb => .inr hb), H₁, S₃, (D₁.move fun o e => keeps_kp k₂ _ o e).move fun o e => k₃.kp _ o (Ne.symm had) e, hfa, had, haO, hrows₃⟩
end
end Mine
end

section
open PySem PySem.W PyProof.Rows
set_option Elab.async false
set_option maxRecDepth 100000
set_option linter.unusedVariables false
namespace Mine

noncomputable def restsP (t : List (List Int)) (c : Int) : List (List Int) := (t.filter fun y => decide (y.headD 0 = c)).map (cut (some 1) none)
noncomputable def joinRaw (s t : List (List Int)) : List (List Int) := s.flatMap fun x => (restsP t (x.getLastD 0)).map fun y => cut none (some (-1)) x ++ y
noncomputable def joinP (s t : List (List Int)) : List (List Int) := setOf (joinRaw s t)
noncomputable def grp (t : List (List Int)) (c : Int) : Option (List (List Int)) := if restsP t c = [] then none else some (restsP t c)

theorem restsP_snoc (t : List (List Int)) (r : List Int) (c : Int) : restsP (t ++ [r]) c = if r.headD 0 = c then restsP t c ++ [cut (some 1) none r] else restsP t c := by
  unfold restsP
  rw [List.filter_append, List.map_append, List.filter_cons, List.filter_nil]
  by_cases e : r.headD 0 = c
  · rw [if_pos e, if_pos (decide_eq_true e)]; rfl
  · rw [if_neg e, if_neg (by simpa using e), List.map_nil, List.append_nil]

section
variable {prog : Program} {w : World} {g : Heap} {mg mb : Str → Option Value} {A : Around} {env : Env} {X X' Y Z : Addr → Prop} {σ σ' : List (Str × AV)} {E : Value → Shared → Prop} {J : Heap → Prop} {R : Flow → Heap → Prop}

theorem rel_of_rowsL {h : Heap} {a : Addr} {S : List (List Int)} (ha : ¬ X a) (x : IsRowsL X h a S) : Rel X h (rowsL S) (.ref a) := by
  obtain ⟨vs, n, ho, hz, hr⟩ := x
  simp only [Rel]
  refine ⟨a, vs.toList, n, rfl, ha, by rw [Array.toArray_toList]; exact ho, relL_of (by simp [hz]) fun i av v h1 h2 => ?_⟩
  obtain ⟨b, r, rfl, hs, hb, hrow⟩ := hr i v (by simpa using h2)
  rw [List.getElem?_map, hs] at h1
  simp only [Option.map_some, Option.some.injEq] at h1
  subst h1
  exact rel_row.mpr ⟨b, rfl, hb, hrow⟩

/-- begun.get(key, []) -/
theorem ev_get {o ek : Expr} {lp ap pos : Pos} {t : List (List Int)} {c : Int} (H : Fm g env X) (ho : Ev prog w g A env X σ o (.groups (grp t))) (hk : Ev prog w g A env X σ ek (.int c))
    (hb : attributeBase o "get" env (eval o env) = eval o env) (hl : (ap.endLine == pos.line) = true) (ht : backTo pos (starEach [ek, .List [] lp] env) = [(false, eval ek env), (false, eval (.List [] lp) env)]) :
    Ev prog w g A env X σ (.Call (.Attribute o "get" ap) [ek, .List [] lp] [] pos) (rowsL (restsP t c)) := fun s S => by
  refine wpAny_Call_method (T := "dict") (id := "dict.get") hb (by rw [ht]; rfl) hl PySem.F.plainAttrs_dict PySem.F.slot_dict_get PySem.F.type_dict_get (wpAny_mono (ho s S) (fun v s₁ ⟨k₁, r₁⟩ => ?_) fun _ _ e => e.elim)
  have r₁' := r₁
  simp only [Rel] at r₁
  obtain ⟨d, f, rfl, hd, hs, hf, hm⟩ := r₁
  obtain ⟨es, ep, hod, _⟩ := id hf
  refine ⟨⟨_, hod, rfl⟩, fun a e => by cases e; exact ⟨_, hod, rfl⟩, ?_⟩
  rw [ht]
  refine wpAny_dict_get2 (knd := intKind prog w) (by simpa using hs) (wpAny_mono (hk s₁ (S.ks k₁)) (fun key s₂ ⟨k₂, r₂⟩ => list_nil ?_) fun _ _ e => e.elim)
  simp only [Rel] at r₂
  obtain ⟨u, rfl⟩ := r₂
  have S₂ := (S.ks k₁).ks k₂
  have kL := keeps_push s₂ { cls := .type "list", data := .seq #[] }
  have k23 := keeps_trans k₂ kL
  refine ⟨c, f, intKind_is prog w c u, isInts_mapOf (hf.move' fun o e => keeps_kp k23 _ o e), keeps_trans (keeps_trans k₁ k23) (keeps_tok _ _), ?_⟩
  rcases hm c with ⟨h1, h2⟩ | ⟨a, S', h1, h2, h3, h4⟩
  · rw [h1]
    have e : restsP t c = [] := by
      unfold grp at h2
      split at h2
      · assumption
      · cases h2
    rw [e]
    have := new_list (s := s₂) (l := []) (vs := #[]) (live_of H S₂) (by simp only [RelL])
    exact this.2
  · rw [h1]
    have e : S' = restsP t c := by
      unfold grp at h2
      split at h2
      · cases h2
      · cases h2; rfl
    subst e
    exact rel_of_rowsL h3 (h4.move' (fun o e => keeps_kp k23 _ o e) (keeps_kp k23).move)

/-- what stands of the groups -/
structure Grp (g : Heap) (env : Env) (Y : Addr → Prop) (h₀ h : Heap) (d : Addr) (f : Int → Option Value) (t : List (List Int)) (Yk : Addr → Prop) : Prop where
  le : IntsLe h d f t.length
  yk : ∀ b, Yk b ↔ Y b ∨ ∃ c, f c = some (.ref b)
  it : ∀ c, (f c = none ∧ restsP t c = []) ∨ ∃ a, f c = some (.ref a) ∧ restsP t c ≠ [] ∧ h₀.get? a = none ∧ a ≠ d ∧ ¬ Own env a ∧ IsRowsL Yk h a (restsP t c)
  inj : ∀ c c' a, f c = some (.ref a) → f c' = some (.ref a) → c = c'

theorem St.retype {h : Heap} {x : Str} {v : Value} {av : AV} (S : St g env X σ h) (hx : σ.lookup x = some (.val v)) (r : Rel X h av v) : St g env X ((x, av) :: σ) h := by
  have hl : ∀ y : Str, ((x, av) :: σ).lookup y = if y = x then some av else σ.lookup y := fun y => by
    rw [List.lookup_cons]
    by_cases e : y = x
    · subst e; simp
    · have : (y == x) = false := by simpa using e
      simp [this, e]
  refine ⟨S.kg, ?_, fun n c hc => ?_, S.lv⟩
  · obtain ⟨m, hn, hm⟩ := S.ns
    refine ⟨m, hn, fun y ay hy hk => ?_⟩
    rw [hl] at hy
    by_cases e : y = x
    · rw [if_pos e] at hy; cases hy; subst e
      obtain ⟨u, hu, ru⟩ := hm y _ hx hk
      simp only [Rel] at ru
      exact ⟨u, hu, ru ▸ r⟩
    · rw [if_neg e] at hy; exact hm y ay hy hk
  · obtain ⟨u, hu, hr⟩ := S.cl n c hc
    refine ⟨u, hu, fun ay hy hk => ?_⟩
    rw [hl] at hy
    by_cases e : n = x
    · rw [if_pos e] at hy; cases hy; subst e
      obtain ⟨z, hz, rz⟩ := hr _ hx hk
      simp only [Rel] at rz
      exact ⟨z, hz, rz ▸ r⟩
    · rw [if_neg e] at hy; exact hr ay hy hk

theorem c_join (G : Gnd g mg mb) (hA : Room 7 A) {fa : Addr} (ha : mg Fjoin.name = some (.ref fa)) {s t : List (List Int)} (hzs : s.length ≤ 1000) (hzt : t.length ≤ 1000) (hne : ∀ r ∈ s ++ t, r ≠ []) (hw : ∀ r ∈ s ++ t, r.length ≤ 1000)
    (hz : (joinRaw s t).length ≤ 100000) (h64 : (firsts (joinRaw s t)).length < 64) (hne2 : ∀ r ∈ joinRaw s t, r ≠ []) :
    Cl prog w g A X (.ref fa) [rowsT s, rowsT t] (rowsT (joinP s t)) := by
  refine cl_def G (d := Fjoin) (by simp [recs]) ha (k := 6) (names := ["s", "t"]) hA rfl (fun _ _ _ vs h => ?_) rfl (by decide) rfl rfl rfl fun L cd X' H hA' => ?_
  · match vs, h with
    | [v, u], _ => rfl
  intro s₀ S₀ _
  -- begun = {}
  refine wpAny_execs_cons (wpAny_Assign_Name (wpAny_Dict_empty ?_) rfl)
  have kd := keeps_push s₀ { cls := .type "dict", data := .dict #[] }
  generalize hd : s₀.heap.objs.size = d at kd ⊢
  have frd : s₀.heap.get? d = none := Heap.get?_none_of_le (Nat.le_of_eq hd)
  have od : (s₀.heap.push { cls := .type "dict", data := .dict #[] }).get? d = some { cls := .type "dict", data := .dict #[] } := hd ▸ Heap.get?_push_size _ rfl
  generalize hs1 : ({ s₀ with heap := s₀.heap.push { cls := .type "dict", data := .dict #[] } } : Shared) = s₁ at kd ⊢
  have od : s₁.heap.get? d = some { cls := .type "dict", data := .dict #[] } := hs1 ▸ od
  have hdX : ¬ X' d := fun hb => by obtain ⟨o, ho⟩ := S₀.lv _ hb; rw [frd] at ho; cases ho
  have hdO : ¬ Own _ d := fun hb => hdX (own_x H hb)
  have hds : d ≠ sysModules := hd ▸ live_sys S₀.kg G.sy
  have M1 : Move X' s₀.heap (fun b => X' b ∨ b = d) s₁.heap := fun b o hb e => ⟨fun q => q.elim hb fun q => (by rw [q, frd] at e; cases e), keeps_kp kd b o e⟩
  have H₁ : Fm g _ (fun b => X' b ∨ b = d) := H.mono (fun b hb => .inl hb) fun b hb => hb.elim (H.xg b) fun q => q ▸ none_of S₀.kg frd
  have S₁ := S₀.move M1 (S₀.kg.trans (keeps_kp kd)) (fun b o _ e => keeps_kp kd b o e) fun b hb => hb.elim (fun q => let ⟨o, ho⟩ := S₀.lv b q; ⟨o, keeps_kp kd b o ho⟩) fun q => ⟨_, q ▸ od⟩
  refine store_name' H₁ S₁ (av := .val (.ref d)) (by simp only [Rel]) (.inr ⟨rfl, _, rfl⟩) fun s₂ k₂ S₂ => ?_
  have od₂ : s₂.heap.get? d = some { cls := .type "dict", data := .dict #[] } := k₂.kp _ _ (fun q => hdO (slot_own q)) od
  have k02 : KeepsX (Own (envOfC Fjoin.name Fjoin.scope L fa cd)) s₀ s₂ := (keeps_x kd).trans (k₂.mono fun b hb => slot_own hb)
  -- the loop
  refine wpAny_execs_cons (wpAny_For (wpAny_mono ((show Ev prog w g _ _ _ _ _ (rowsT t) from (by first | exact ev_local (by assumption) rfl rfl rfl | exact ev_cell' (by assumption) rfl rfl rfl rfl)) s₂ S₂) (fun xv s₃ ⟨k₃, r₃⟩ => wpAny_mono (iter_src (A' := A.deeper (envOfC Fjoin.name Fjoin.scope L fa cd)) hA'.hh (.tup _) r₃) (fun it s₄ ⟨k₄, e₄, it₄, oI⟩ => ?_) fun _ _ e => e.elim) fun _ _ e => e.elim) (fun _ => rfl))
  subst e₄
  have k24 := keeps_trans k₃ k₄
  generalize hI : s₃.heap.objs.size = I at it₄ oI ⊢
  have frI : s₂.heap.get? I = none := none_of (keeps_kp k₃) (Heap.get?_none_of_le (Nat.le_of_eq hI))
  have hIX : ¬ (X' I ∨ I = d) := fun hb => by obtain ⟨o, ho⟩ := S₂.lv _ hb; rw [frI] at ho; cases ho
  have hdI : d ≠ I := fun e => hIX (.inr e.symm)
  have hIO : ¬ Own (envOfC Fjoin.name Fjoin.scope L fa cd) I := fun hb => hIX (own_x H₁ hb)
  have M2 : Move (fun b => X' b ∨ b = d) s₂.heap (fun b => (X' b ∨ b = d) ∨ b = I) s₄.heap := fun b o hb e => ⟨fun q => q.elim hb fun q => (by rw [q, frI] at e; cases e), keeps_kp k24 b o e⟩
  have HY : Fm g (envOfC Fjoin.name Fjoin.scope L fa cd) (fun b => (X' b ∨ b = d) ∨ b = I) := H₁.mono (fun b hb => .inl hb) fun b hb => hb.elim (H₁.xg b) fun q => q ▸ none_of S₂.kg frI
  have SY := S₂.move M2 (S₂.kg.trans (keeps_kp k24)) (fun b o _ e => keeps_kp k24 b o e) fun b hb => hb.elim (fun q => let ⟨o, ho⟩ := S₂.lv b q; ⟨o, keeps_kp k24 b o ho⟩) fun q => q ▸ oI
  have od₄ := keeps_kp k24 _ _ od₂
  refine codeAny_mono (codeAny_forLoop (R := fun r s' => r = .ok .next ∧ KeepsX (Own (envOfC Fjoin.name Fjoin.scope L fa cd)) s₀ s' ∧ St g (envOfC Fjoin.name Fjoin.scope L fa cd) X' [("begun", .groups (grp t)), ("s", rowsT s), ("t", rowsT t)] s'.heap)
    (fun n s' => ∃ k f Yk, n = t.length - k ∧ k ≤ t.length ∧ KeepsX (fun b => Own (envOfC Fjoin.name Fjoin.scope L fa cd) b ∨ b = d ∨ b = I) s₄ s' ∧ Fm g (envOfC Fjoin.name Fjoin.scope L fa cd) Yk ∧
      St g (envOfC Fjoin.name Fjoin.scope L fa cd) Yk [("begun", .val (.ref d)), ("s", rowsT s), ("t", rowsT t)] s'.heap ∧ IterAt prog w (A.deeper (envOfC Fjoin.name Fjoin.scope L fa cd)) Yk s'.heap I (t.map row) k ∧
      Grp g (envOfC Fjoin.name Fjoin.scope L fa cd) (fun b => (X' b ∨ b = d) ∨ b = I) s₄.heap s'.heap d f (t.take k) Yk) (fun n s₅ hinv => ?_) t.length ⟨0, fun _ => none, _, rfl, Nat.zero_le _, .refl _ _, HY, SY, it₄, ?_⟩) fun r s₅ ⟨er, k₅, S₅⟩ => ?_
  · obtain ⟨k, f, Yk, rfl, hk, kk, Hk, Sk, itk, Gk⟩ := hinv
    have hYd : Yk d := (Gk.yk d).mpr (.inl (.inl (.inr rfl)))
    have hYI : Yk I := (Gk.yk I).mpr (.inl (.inr rfl))
    refine iter_next itk hYI (by simpa using hk) (fun a v s₆ ha k₆ r₆ it₆ => ?_) fun s₆ he k₆ => ?_
    · rw [List.getElem?_map] at ha
      obtain ⟨r, hr, rfl⟩ := Option.map_eq_some_iff.mp ha
      have hlt : k < t.length := (List.getElem?_eq_some_iff.mp hr).1
      have hrm : r ∈ t := List.mem_of_getElem? hr
      obtain ⟨q1, q2⟩ := seq0 (hne r (List.mem_append_right _ hrm))
      have S₆ := Sk.kx Hk k₆ fun b hb => ⟨hb ▸ hYI, hb ▸ hIO, let ⟨o, ho, _⟩ := it₆.ok; ⟨o, hb ▸ ho⟩⟩
      refine wpAny_assign_Name (store_name' Hk S₆ r₆ (.inl rfl) fun s₇ k₇ S₇ => ?_)
      have k57 : KeepsX (fun b => b = I ∨ Slot (envOfC Fjoin.name Fjoin.scope L fa cd) "late" b) s₅ s₇ := (k₆.mono fun b hb => .inl hb).trans (k₇.mono fun b hb => .inr hb)
      have kOut : ∀ b, ¬ Yk b → ¬ (b = I ∨ Slot (envOfC Fjoin.name Fjoin.scope L fa cd) "late" b) := fun b hb q => q.elim (fun e => hb (e ▸ hYI)) fun q => hb (own_x Hk (slot_own q))
      have M57 : Move Yk s₅.heap Yk s₇.heap := fun b o hb e => ⟨hb, k57.kp b o (kOut b hb) e⟩
      have oI₄ : ∃ o, s₄.heap.get? I = some o := oI
      have freshI : ∀ {a}, s₄.heap.get? a = none → a ≠ I := fun h e => by obtain ⟨o, ho⟩ := oI₄; rw [e, ho] at h; cases h
      have listKeep : ∀ {a}, s₄.heap.get? a = none → ¬ Own (envOfC Fjoin.name Fjoin.scope L fa cd) a → ∀ o, s₅.heap.get? a = some o → s₇.heap.get? a = some o := fun h1 h2 o e => k57.kp _ o (fun q => q.elim (freshI h1) fun q => h2 (slot_own q)) e
      have D₇ : IntsLe s₇.heap d f k := by
        have := Gk.le.move fun o e => k57.kp _ o (fun q => q.elim hdI fun q => hdO (slot_own q)) e
        rwa [List.length_take, Nat.min_eq_left hk] at this
      have hf : (f (r.headD 0) = none ∧ restsP (t.take k) (r.headD 0) = []) ∨ ∃ a, f (r.headD 0) = some (.ref a) ∧ Yk a ∧ a ≠ d ∧ ¬ Own (envOfC Fjoin.name Fjoin.scope L fa cd) a ∧ IsRowsL Yk s₇.heap a (restsP (t.take k) (r.headD 0)) := by
        rcases Gk.it (r.headD 0) with q | ⟨a, h1, h2, h3, h4, h5, h6⟩
        · exact .inl q
        · exact .inr ⟨a, h1, (Gk.yk a).mpr (.inr ⟨_, h1⟩), h4, h5, h6.move' (listKeep h3 h5) M57⟩
      have hrl : (restsP (t.take k) (r.headD 0)).length ≤ 100000 := by
        unfold restsP
        rw [List.length_map]
        have h1 := List.length_filter_le (fun y : List Int => decide (y.headD 0 = r.headD 0)) (t.take k)
        rw [List.length_take] at h1; omega
      refine wpAny_execs_cons (wpAny_mono (join_turn Hk S₇ (by first | exact ev_local (by assumption) rfl rfl rfl | exact ev_cell' (by assumption) rfl rfl rfl rfl) (ev_at (by first | exact ev_local (by assumption) rfl rfl rfl | exact ev_cell' (by assumption) rfl rfl rfl rfl) ev_int q1 q2 (by decide) (fun _ _ => rfl)) (fun Y' HY' => ev_cut HY' (by first | exact ev_local (by assumption) rfl rfl rfl | exact ev_cell' (by assumption) rfl rfl rfl rfl) (evp_some ev_int) evp_none (by have := hw r (List.mem_append_right _ hrm); omega)) D₇ (by omega) hYd hdO hds hrl hf rfl rfl rfl rfl rfl rfl rfl rfl) (fun fl s₈ hq => ?_) fun _ _ e => e.elim)
      obtain ⟨efl, a, k₈, H₈, S₈, D₈, hfa, had, haO, hrows⟩ := hq
      subst efl
      refine wpAny_execs_nil ?_
      -- the list at a is new, or the one that stood there
      have hfa4 : s₄.heap.get? a = none := by
        rcases hfa with e | ⟨_, e⟩
        · rcases Gk.it (r.headD 0) with ⟨q, _⟩ | ⟨a', h1, h2, h3, h4, h5, h6⟩
          · rw [e] at q; cases q
          · rw [e] at h1; cases h1; exact h3
        · cases q : s₄.heap.get? a with
          | none => rfl
          | some o =>
            exfalso
            have hIa : a ≠ I := fun e' => by obtain ⟨o, ho, _⟩ := it₆.ok; have := k₇.kp _ o (fun z => hIO (slot_own z)) ho; rw [← e', e] at this; cases this
            have h5 := kk.kp a o (fun z => z.elim haO fun z => z.elim had hIa) q
            have h7 := k57.kp a o (fun z => z.elim hIa fun z => haO (slot_own z)) h5
            rw [e] at h7; cases h7
      have hIa : a ≠ I := freshI hfa4
      have hIns : ¬ Slot (envOfC Fjoin.name Fjoin.scope L fa cd) "late" I := fun z => hIO (slot_own z)
      have liveA : ∀ {b} o, ¬ Yk b → s₇.heap.get? b = some o → b ≠ a := fun {b} o hb ho e => by
        rcases hfa with q | ⟨_, q⟩
        · exact hb ((Gk.yk b).mpr (.inr ⟨_, e ▸ q⟩))
        · rw [e, q] at ho; cases ho
      have M78 : Move Yk s₇.heap (fun b => Yk b ∨ b = a) s₈.heap := fun b o hb ho => by
        have hba := liveA o hb ho
        exact ⟨fun q => q.elim hb hba, k₈.kp b o (fun q => q.elim (fun e => hb (e ▸ hYd)) hba) ho⟩
      have tk : t.take (k + 1) = t.take k ++ [r] := by rw [List.take_add_one, hr]; rfl
      refine ⟨t.length - (k + 1), by omega, k + 1, (fun x => if x = r.headD 0 then some (.ref a) else f x), (fun b => Yk b ∨ b = a), rfl, hlt, ?_, H₈, S₈.sub (sub_cons rfl), ?_, ?_⟩
      · obtain ⟨h5, t5, rfl, q5⟩ := kk
        obtain ⟨h7, t7, rfl, q7⟩ := k57
        obtain ⟨h8, t8, rfl, q8⟩ := k₈
        exact ⟨h8, t8, rfl, fun b o hb e => q8 b o (fun z => z.elim (fun z => hb (.inr (.inl z))) fun z => by rw [z, hfa4] at e; cases e) (q7 b o (fun z => z.elim (fun z => hb (.inr (.inr z))) fun z => hb (.inl (slot_own z))) (q5 b o hb e))⟩
      · have M68 : Move Yk s₆.heap (fun b => Yk b ∨ b = a) s₈.heap := fun b o hb e => M78 b o hb (k₇.kp b o (fun q => hb (own_x Hk (slot_own q))) e)
        exact it₆.move M68 fun o e => k₈.kp _ o (fun q => q.elim (fun e => hdI e.symm) (fun e => hIa e.symm)) (k₇.kp _ o hIns e)
      · rw [tk]
        refine ⟨by simpa [List.length_take, Nat.min_eq_left hk] using D₈, fun b => ⟨?_, ?_⟩, fun c => ?_, fun c c' x h1 h2 => ?_⟩
        · rintro (hb | hb)
          · rcases (Gk.yk b).mp hb with q | ⟨c, q⟩
            · exact .inl q
            · right
              by_cases e : c = r.headD 0
              · subst e
                rcases hfa with z | ⟨z, _⟩
                · rw [z] at q; cases q; exact ⟨r.headD 0, by simp⟩
                · rw [z] at q; cases q
              · exact ⟨c, by rw [if_neg e]; exact q⟩
          · exact .inr ⟨r.headD 0, by simp [hb]⟩
        · rintro (hb | ⟨c, q⟩)
          · exact .inl ((Gk.yk b).mpr (.inl hb))
          · by_cases e : c = r.headD 0
            · rw [if_pos e] at q; cases q; exact .inr rfl
            · rw [if_neg e] at q; exact .inl ((Gk.yk b).mpr (.inr ⟨c, q⟩))
        · by_cases e : c = r.headD 0
          · subst e
            right
            refine ⟨a, by simp, ?_, hfa4, had, haO, ?_⟩
            · rw [restsP_snoc, if_pos rfl]; simp
            · rw [restsP_snoc, if_pos rfl]; exact hrows
          · rw [if_neg e, restsP_snoc, if_neg (Ne.symm e)]
            rcases Gk.it c with q | ⟨a', h1, h2, h3, h4, h5, h6⟩
            · exact .inl q
            · right
              have h6' := h6.move' (listKeep h3 h5) M57
              have haa : a' ≠ a := fun z => by
                subst z
                rcases hfa with z | ⟨_, z⟩
                · exact e (Gk.inj _ _ _ h1 z)
                · obtain ⟨o, ho⟩ := h6'.lv; rw [z] at ho; cases ho
              exact ⟨a', h1, h2, h3, h4, h5, h6'.move' (fun o e => k₈.kp _ o (fun q => q.elim h4 haa) e) M78⟩
        · have other : ∀ c', c' ≠ r.headD 0 → f c' = some (.ref a) → False := fun c' hc' h => by
            rcases hfa with z | ⟨_, z⟩
            · exact hc' (Gk.inj _ _ _ h z)
            · rcases Gk.it c' with ⟨q, _⟩ | ⟨a', h1, h2, h3, h4, h5, h6⟩
              · rw [h] at q; cases q
              · rw [h] at h1; cases h1
                obtain ⟨o, ho⟩ := (h6.move' (listKeep h3 h5) M57).lv; rw [z] at ho; cases ho
          by_cases e1 : c = r.headD 0 <;> by_cases e2 : c' = r.headD 0
          · rw [e1, e2]
          · rw [if_pos e1] at h1; cases h1; rw [if_neg e2] at h2; exact (other c' e2 h2).elim
          · rw [if_pos e2] at h2; cases h2; rw [if_neg e1] at h1; exact (other c e1 h1).elim
          · rw [if_neg e1] at h1; rw [if_neg e2] at h2; exact Gk.inj _ _ _ h1 h2
    · have e : k = t.length := by simpa using he.symm
      subst e
      rw [List.take_length] at Gk
      have M : Move Yk s₅.heap X' s₆.heap := fun b o hb ho => ⟨fun q => hb ((Gk.yk b).mpr (.inl (.inl (.inl q)))), k₆.kp b o (fun q => hb (q ▸ hYI)) ho⟩
      have SX := Sk.move M (fun b o ho => k₆.kp b o (fun q => by have := Hk.xg b (q ▸ hYI); rw [ho] at this; cases this) (Sk.kg b o ho)) (fun b o hb ho => k₆.kp b o (fun q => hIO (q ▸ hb)) ho) (fun b hb => by
        obtain ⟨o, ho⟩ := Sk.lv b ((Gk.yk b).mpr (.inl (.inl (.inl hb))))
        exact ⟨o, k₆.kp b o (fun q => hIX (.inl (q ▸ hb))) ho⟩)
      refine wpAny_execs_nil ⟨rfl, ?_, (SX.retype (x := "begun") (v := .ref d) (av := .groups (grp t)) rfl ?_).sub fun y => ?_⟩
      · obtain ⟨h2, t2, rfl, q2⟩ := k02
        obtain ⟨h4, t4, rfl, q4⟩ := k24
        obtain ⟨h5, t5, rfl, q5⟩ := kk
        obtain ⟨h6, t6, rfl, q6⟩ := k₆
        refine ⟨h6, t6, rfl, fun b o hb e => ?_⟩
        have hbI : b ≠ I := fun z => by
          have := q2 b o hb e
          rw [z] at this
          exact absurd (this.symm.trans frI) (by simp)
        exact q6 b o hbI (q5 b o (fun z => by
          rcases z with z | z | z
          · exact hb z
          · rw [z, frd] at e; cases e
          · exact hbI z) (q4 b o (q2 b o hb e)))
      · simp only [Rel]
        refine ⟨d, f, rfl, hdX, hds, Gk.le.1.move' fun o e => k₆.kp _ o hdI e, fun c => ?_⟩
        rcases Gk.it c with ⟨h1, h2⟩ | ⟨a, h1, h2, h3, h4, h5, h6⟩
        · exact .inl ⟨h1, by unfold grp; rw [if_pos h2]⟩
        · have haI : a ≠ I := fun e => by obtain ⟨o, ho⟩ := oI; rw [e, ho] at h3; cases h3
          refine .inr ⟨a, _, h1, by unfold grp; rw [if_neg h2], fun hb => ?_, h6.move' (fun o e => k₆.kp _ o haI e) M⟩
          obtain ⟨o, ho⟩ := S₂.lv a (.inl hb)
          have := keeps_kp k24 _ _ ho
          rw [h3] at this; cases this
      · by_cases e : y = "begun"
        · subst e; exact .inr rfl
        · have e' : (y == ("begun" : Str)) = false := by simpa using e
          right
          simp only [List.lookup_cons, e']
  · refine ⟨⟨⟨#[], 0, od₄, fun _ hx => by simp at hx, fun k => by simp [findBy]⟩, fun o es ep h1 h2 => by rw [od₄] at h1; cases h1; cases h2; exact Nat.zero_le _⟩, fun b => ⟨.inl, fun h => h.elim id fun ⟨c, q⟩ => nomatch q⟩, fun c => .inl ⟨rfl, rfl⟩, fun c c' a h => nomatch h⟩
  · subst er
    obtain ⟨a', ha', hC⟩ := fn_of G (d := Fset_of) (by simp [recs])
    have hfl : (s.flatMap fun x => ((restsP t (x.getLastD 0)).filter fun _ => true).map fun y => row (cut none (some (-1)) x ++ y)) = (joinRaw s t).map row := by
      unfold joinRaw
      rw [List.map_flatMap]
      congr 1; funext x
      rw [List.filter_eq_self.mpr fun _ _ => rfl, List.map_map]; rfl
    have cutw : ∀ (lo hi : Option Int) (r : List Int), (cut lo hi r).length ≤ r.length := fun lo hi r => by unfold cut; rw [List.length_take, List.length_drop]; omega
    have last : Bg prog w g (A.deeper (envOfC Fjoin.name Fjoin.scope L fa cd)) (envOfC Fjoin.name Fjoin.scope L fa cd) X' (Own (envOfC Fjoin.name Fjoin.scope L fa cd)) [("begun", .groups (grp t)), ("s", rowsT s), ("t", rowsT t)] (fun _ => True) (Fjoin.body.drop 2) (Rt X' (rowsT (joinP s t))) := by
      refine bg_ret stj_true (ev_call H (ev_glob G H ha' rfl rfl) hC (evl_cons (r := rowsL (joinRaw s t)) (ev_eq (ev_cp H hA'.hh (cp_two (xs := s) (enc := row) (bd := fun x => [("one", row x), ("begun", .groups (grp t))]) (src := rowsT s) (src2 := fun x => rowsL (restsP t (x.getLastD 0))) (ys := fun x => restsP t (x.getLastD 0)) (enc2 := fun _ => row) (f := fun x y => row (cut none (some (-1)) x ++ y)) (pz := fun _ _ => true) (bd2 := fun x y => [("rest", row y), ("one", row x), ("begun", .groups (grp t))]) hA'.hh (fun _ => rfl) rfl rfl (by decide) (by first | exact ev_local (by assumption) rfl rfl rfl | exact ev_cell' (by assumption) rfl rfl rfl rfl) (.tup _) (fun _ _ => rfl) (by rw [hfl, List.length_map]; exact hz) ?_ ?_)) (by rw [hfl])) rfl evl_nil)
        (c_set_of G (hA'.le (by decide)) ha' (.list _) hz h64 hne2) rfl) fun h v S _ r => ⟨v, rfl, r⟩
      · intro C Y' HC x hx
        have hxne := hne x (List.mem_append_left _ hx)
        have hxw := hw x (List.mem_append_left _ hx)
        have hlen : 0 < x.length := by cases x with | nil => exact absurd rfl hxne | cons _ _ => simp
        refine ⟨asg_nm HC rfl, sub_cons rfl, ev_get HC (by first | exact ev_local (by assumption) rfl rfl rfl | exact ev_cell' (by assumption) rfl rfl rfl rfl) (ev_at (k := -1) (j := x.length - 1) (by first | exact ev_local (by assumption) rfl rfl rfl | exact ev_cell' (by assumption) rfl rfl rfl rfl) (ev_neg ev_int rfl) ?_ ?_ (by decide) (fun _ _ => rfl)) rfl rfl rfl, .list _⟩
        · rw [seqIndex_neg (by decide) (by omega)]; congr 1; omega
        · rw [List.getLastD_eq_getLast?, List.getLast?_eq_getElem?]
          have : x[x.length - 1]? = some (x[x.length - 1]'(by omega)) := by simp [hlen]
          rw [this]; rfl
      · intro C Y' HC x hx y hy
        have hxw := hw x (List.mem_append_left _ hx)
        have hyw : y.length ≤ 1000 := by
          unfold restsP at hy
          obtain ⟨z, hz, rfl⟩ := List.mem_map.mp hy
          have := hw z (List.mem_append_right _ (List.mem_filter.mp hz).1)
          have := cutw (some 1) none z
          omega
        have h1 := cutw none (some (-1)) x
        exact ⟨asg_nm HC rfl, sub_cons rfl, tests_nil, fun _ => ev_bin HC (ev_cut HC (by first | exact ev_local (by assumption) rfl rfl rfl | exact ev_cell' (by assumption) rfl rfl rfl rfl) evp_none (evp_some (ev_neg ev_int rfl)) (by omega)) (by first | exact ev_local (by assumption) rfl rfl rfl | exact ev_cell' (by assumption) rfl rfl rfl rfl) (op_catR (by omega))⟩
    exact wpAny_mono (last s₅ S₅ trivial) (fun fl s₆ ⟨k₆, q⟩ => ⟨k₅.trans k₆, q⟩) fun _ _ e => e
end
end Mine
end

section
open PySem PySem.W PyProof.Rows
set_option Elab.async false
set_option maxRecDepth 100000
set_option linter.unusedVariables false
namespace Mine

/-- a row of arity a over n ids -/
noncomputable def Ok (n a : Nat) (r : List Int) : Prop := r.length = a ∧ ∀ x ∈ r, 0 ≤ x ∧ x < n
noncomputable def OkS (n a : Nat) (S : List (List Int)) : Prop := ∀ r ∈ S, Ok n a r

noncomputable def rowsP (n : Nat) : Nat → List (List Int)
  | 0 => [[]]
  | k + 1 => (rowsP n k).flatMap fun r => (List.range n).map fun (a : Nat) => r ++ [(a : Int)]

theorem mem_rowsP {n : Nat} : ∀ {a : Nat} {r : List Int}, r ∈ rowsP n a ↔ Ok n a r
  | 0, r => by
    simp only [rowsP, List.mem_singleton, Ok, List.length_eq_zero_iff]
    constructor
    · rintro rfl; exact ⟨rfl, fun _ h => nomatch h⟩
    · exact fun h => h.1
  | k + 1, r => by
    simp only [rowsP, List.mem_flatMap, List.mem_map, List.mem_range]
    constructor
    · rintro ⟨q, hq, a, ha, rfl⟩
      obtain ⟨h1, h2⟩ := mem_rowsP.mp hq
      refine ⟨by rw [List.length_append, h1]; rfl, fun x hx => ?_⟩
      rcases List.mem_append.mp hx with h | h
      · exact h2 x h
      · rw [List.mem_singleton] at h; subst h; exact ⟨by omega, by omega⟩
    · rintro ⟨h1, h2⟩
      have hne : r ≠ [] := fun e => by rw [e] at h1; cases h1
      obtain ⟨e1, e2⟩ := h2 (r.getLast hne) (List.getLast_mem hne)
      refine ⟨r.dropLast, mem_rowsP.mpr ⟨by rw [List.length_dropLast, h1]; rfl, fun x hx => h2 x (List.dropLast_subset r hx)⟩, (r.getLast hne).toNat, by omega, ?_⟩
      have e3 : (((r.getLast hne).toNat : Nat) : Int) = r.getLast hne := by omega
      rw [e3, List.dropLast_concat_getLast hne]
theorem rowsP_len {n : Nat} : ∀ {a : Nat}, (rowsP n a).length = n ^ a
  | 0 => rfl
  | k + 1 => by
    have : ∀ l : List (List Int), (l.flatMap fun r => (List.range n).map fun (a : Nat) => r ++ [(a : Int)]).length = l.length * n := by
      intro l
      induction l with
      | nil => simp
      | cons x l ih => rw [List.flatMap_cons, List.length_append, ih, List.length_map, List.length_range, List.length_cons, Nat.succ_mul]; omega
    rw [rowsP, this, rowsP_len, Nat.pow_succ]
theorem ok_len {n a : Nat} {S : List (List Int)} (h : OkS n a S) (nd : S.Nodup) : S.length ≤ n ^ a := by
  rw [← rowsP_len]
  exact nd.length_le_of_subset fun r hr => mem_rowsP.mpr (h r hr)
theorem pow_le {n a : Nat} (hn : n ≤ 3) (ha : a ≤ 3) : n ^ a ≤ 27 :=
  Nat.le_trans (Nat.pow_le_pow_left hn a) (Nat.le_trans (Nat.pow_le_pow_right (by decide) ha) (by decide))
theorem ok_27 {n a : Nat} {S : List (List Int)} (hn : n ≤ 3) (ha : a ≤ 3) (h : OkS n a S) (nd : S.Nodup) : S.length ≤ 27 := Nat.le_trans (ok_len h nd) (pow_le hn ha)
theorem firsts_64 {n a : Nat} {S : List (List Int)} (hn : n ≤ 3) (ha : a ≤ 3) (h : OkS n a S) : (firsts S).length < 64 := by
  have := ok_27 hn ha (S := firsts S) (fun r hr => h r ((mem_firsts S r).mp hr)) (firsts_nodup S)
  omega
theorem ok_ne {n a : Nat} {S : List (List Int)} (ha : 1 ≤ a) (h : OkS n a S) : ∀ r ∈ S, r ≠ [] := fun r hr e => by have := (h r hr).1; rw [e] at this; simp at this; omega
theorem ok_w {n a : Nat} {S : List (List Int)} (ha : a ≤ 3) (h : OkS n a S) : ∀ r ∈ S, r.length ≤ 1000 := fun r hr => by have := (h r hr).1; omega

theorem OkS.app {n a : Nat} {S T : List (List Int)} (h : OkS n a S) (h' : OkS n a T) : OkS n a (S ++ T) := fun r hr => (List.mem_append.mp hr).elim (h r) (h' r)
theorem OkS.set {n a : Nat} {S : List (List Int)} (h : OkS n a S) : OkS n a (setOf S) := fun r hr => h r (mem_setOf.mp hr)

theorem cut_init (r : List Int) : cut none (some (-1)) r = r.dropLast := by
  unfold cut
  have : kms_lo none r.length = 0 := rfl
  have h2 : kms_hi (some (-1)) r.length = r.length - 1 := by simp [kms_hi]
  rw [this, h2, List.drop_zero, Nat.sub_zero, List.dropLast_eq_take]
theorem cut_tail (r : List Int) : cut (some 1) none r = r.tail := by
  unfold cut
  have h1 : kms_lo (some 1) r.length = min 1 r.length := by simp [kms_lo]
  have h2 : kms_hi none r.length = r.length := rfl
  rw [h1, h2]
  cases r with
  | nil => rfl
  | cons x r => rw [show min 1 (x :: r).length = 1 by simp]; simp
theorem mem_joinRaw {s t : List (List Int)} {r : List Int} : r ∈ joinRaw s t ↔ ∃ x ∈ s, ∃ y ∈ t, y.headD 0 = x.getLastD 0 ∧ r = x.dropLast ++ y.tail := by
  unfold joinRaw restsP
  simp only [List.mem_flatMap, List.mem_map, List.mem_filter, decide_eq_true_eq, cut_init, cut_tail]
  constructor
  · rintro ⟨x, hx, q, ⟨y, ⟨hy, hh⟩, rfl⟩, rfl⟩; exact ⟨x, hx, y, hy, hh, rfl⟩
  · rintro ⟨x, hx, y, hy, hh, rfl⟩; exact ⟨x, hx, _, ⟨y, ⟨hy, hh⟩, rfl⟩, rfl⟩
theorem ok_join {n a b : Nat} {s t : List (List Int)} (ha : 1 ≤ a) (hb : 1 ≤ b) (hs : OkS n a s) (ht : OkS n b t) : OkS n (a + b - 2) (joinRaw s t) := fun r hr => by
  obtain ⟨x, hx, y, hy, _, rfl⟩ := mem_joinRaw.mp hr
  obtain ⟨h1, h2⟩ := hs x hx
  obtain ⟨h3, h4⟩ := ht y hy
  refine ⟨by rw [List.length_append, List.length_dropLast, List.length_tail]; omega, fun z hz => ?_⟩
  rcases List.mem_append.mp hz with h | h
  · exact h2 z (List.dropLast_subset x h)
  · exact h4 z (List.mem_of_mem_tail h)
theorem joinRaw_len {s t : List (List Int)} : (joinRaw s t).length ≤ s.length * t.length := by
  unfold joinRaw
  induction s with
  | nil => simp
  | cons x s ih =>
    rw [List.flatMap_cons, List.length_append, List.length_map, List.length_cons, Nat.succ_mul]
    have : (restsP t (x.getLastD 0)).length ≤ t.length := by unfold restsP; rw [List.length_map]; exact List.length_filter_le _ _
    omega

/- closure -/
noncomputable def stepP (s late : List (List Int)) : List (List Int) := unionP late (joinP late s)
noncomputable def closF (s : List (List Int)) : Nat → List (List Int) → List (List Int) → List (List Int)
  | 0, found, _ => found
  | f + 1, found, late => if late ≠ found then closF s f late (stepP s late) else found
noncomputable def closureP (s : List (List Int)) : List (List Int) := closF s 11 [] s

theorem mem_stepP {s late : List (List Int)} {r : List Int} : r ∈ stepP s late ↔ r ∈ late ∨ r ∈ joinRaw late s := by
  unfold stepP unionP joinP
  rw [mem_setOf, List.mem_append, mem_setOf]
theorem ok_step {n : Nat} {s late : List (List Int)} (hs : OkS n 2 s) (hl : OkS n 2 late) : OkS n 2 (stepP s late) := fun r hr => (mem_stepP.mp hr).elim (hl r) (ok_join (by decide) (by decide) hl hs r)
theorem sorted_step {s late : List (List Int)} : Sorted (stepP s late) := setOf_sorted _

theorem lt_of_ssub {a b : List (List Int)} (ha : Sorted a) (hb : Sorted b) (hsub : ∀ x ∈ a, x ∈ b) (hne : b ≠ a) : a.length < b.length := by
  apply Nat.lt_of_not_le
  intro hle
  refine hne (sorted_ext hb ha fun x => ⟨fun hx => ?_, hsub x⟩)
  apply Classical.byContradiction
  intro hxa
  have h1 : (x :: a).Nodup := List.nodup_cons.mpr ⟨hxa, sorted_nodup ha⟩
  have h2 := h1.length_le_of_subset (l₂ := b) fun y hy => by
    rcases List.mem_cons.mp hy with rfl | hy
    · exact hx
    · exact hsub y hy
  rw [List.length_cons] at h2
  omega
end Mine
end

section
open PySem PySem.W PyProof.Rows
set_option Elab.async false
set_option maxRecDepth 100000
set_option linter.unusedVariables false
namespace Mine
section
variable {prog : Program} {w : World} {g : Heap} {mg mb : Str → Option Value} {A : Around} {env : Env} {X X' Y Z : Addr → Prop} {σ σ' : List (Str × AV)} {E : Value → Shared → Prop} {J : Heap → Prop} {R : Flow → Heap → Prop}

structure ClI (n : Nat) (s : List (List Int)) where
  found : List (List Int)
  late : List (List Int)
  fuel : Nat
  eq : closF s fuel found late = closureP s
  room : 10 ≤ fuel + found.length
  sf : Sorted found
  sl : Sorted late
  sub : ∀ x ∈ found, x ∈ late
  ok : OkS n 2 late

theorem c_closure (G : Gnd g mg mb) (hA : Room 9 A) {fa : Addr} (ha : mg Fclosure.name = some (.ref fa)) {n : Nat} (hn : n ≤ 3) {s : List (List Int)} (hs : OkS n 2 s) (hss : Sorted s) : Cl prog w g A X (.ref fa) [rowsT s] (rowsT (closureP s)) := by
  have b9 : ∀ {S : List (List Int)}, OkS n 2 S → Sorted S → S.length ≤ 9 := fun h hs => by
    have := ok_len h (sorted_nodup hs)
    have h2 : n ^ 2 ≤ 9 := Nat.le_trans (Nat.pow_le_pow_left hn 2) (by decide)
    omega
  refine cl_def G (d := Fclosure) (by simp [recs]) ha (k := 8) (names := ["s"]) hA rfl (fun _ _ _ vs h => ?_) rfl (by decide) rfl rfl rfl fun L cd X' H hA' => ?_
  · match vs, h with
    | [v], _ => rfl
  · obtain ⟨au, hau, hCu⟩ := fn_of G (d := Funion) (by simp [recs])
    obtain ⟨aj, haj, hCj⟩ := fn_of G (d := Fjoin) (by simp [recs])
    refine bg_pair_swapped H hA'.hh (fun _ h => h) stj_true (a := rowsT []) (b := rowsT s) (.inl rfl) (.inl rfl) (ev_tuple H (evl_cons (ev_tuple H evl_nil (by simp)) rfl (evl_cons (by first | exact ev_local (by assumption) rfl rfl rfl | exact ev_cell' (by assumption) rfl rfl rfl rfl) rfl evl_nil)) (by simp)) rfl rfl ?_
    refine bg_pre (σ' := [("found", rowsT []), ("late", rowsT s), ("s", rowsT s)]) (J' := fun _ => True) ?_ (fun _ _ _ => trivial) (fun _ => .inr rfl)
    refine bg_while (ι := ClI n s) (σf := fun i => [("found", rowsT i.found), ("late", rowsT i.late), ("s", rowsT s)]) (Jf := fun _ _ => True) (μ := fun i => i.fuel) (tb := fun i => decide (i.late ≠ i.found)) (fun _ => stj_true) (fun i => tr_j (tr_cmp H (by first | exact ev_local (by assumption) rfl rfl rfl | exact ev_cell' (by assumption) rfl rfl rfl rfl) (by first | exact ev_local (by assumption) rfl rfl rfl | exact ev_cell' (by assumption) rfl rfl rfl rfl) (op_ne_rows hA') rfl)) (fun i hi => ?_) (fun i hi => ?_) ⟨[], s, 11, rfl, by simp, List.Pairwise.nil, hss, (fun _ h => nomatch h), hs⟩
    · have hne : i.late ≠ i.found := of_decide_eq_true hi
      have h9 := b9 i.ok i.sl
      have hlt := lt_of_ssub i.sf i.sl i.sub hne
      have hf : 0 < i.fuel := by have := i.room; omega
      have h9s := b9 hs hss
      have okj := ok_join (a := 2) (b := 2) (by decide) (by decide) i.ok hs
      refine bg_assign H (fun _ h => h) stj_true (r := rowsT i.late) (by first | exact ev_local (by assumption) rfl rfl rfl | exact ev_cell' (by assumption) rfl rfl rfl rfl) (.inl rfl) rfl ?_
      refine bg_assign H (fun _ h => h) stj_true (r := rowsT (stepP s i.late)) ?_ (.inl rfl) rfl ?_
      · refine ev_call H (ev_glob G H hau rfl rfl) hCu (evl_cons (by first | exact ev_local (by assumption) rfl rfl rfl | exact ev_cell' (by assumption) rfl rfl rfl rfl) rfl (evl_cons (r := rowsT (joinP i.late s)) ?_ rfl evl_nil)) (c_union G (hA'.le (by decide)) hau ?_ ?_ ?_) rfl
        · refine ev_call H (ev_glob G H haj rfl rfl) hCj (evl_cons (by first | exact ev_local (by assumption) rfl rfl rfl | exact ev_cell' (by assumption) rfl rfl rfl rfl) rfl (evl_cons (by first | exact ev_local (by assumption) rfl rfl rfl | exact ev_cell' (by assumption) rfl rfl rfl rfl) rfl evl_nil)) (c_join G (hA'.le (by decide)) haj (by omega) (by omega) (ok_ne (by decide) (i.ok.app hs)) (ok_w (by decide) (i.ok.app hs)) ?_ (firsts_64 hn (by decide) okj) (ok_ne (by decide) okj)) rfl
          have h1 := joinRaw_len (s := i.late) (t := s)
          have h2 : i.late.length * s.length ≤ 9 * 9 := Nat.mul_le_mul h9 h9s
          omega
        · have := b9 (okj.set) (setOf_sorted _); show i.late.length + (setOf (joinRaw i.late s)).length ≤ _; omega
        · exact firsts_64 hn (by decide) (i.ok.app okj.set)
        · exact ok_ne (by decide) (i.ok.app okj.set)
      · refine bg_nil fun h S _ => ⟨rfl, ⟨i.late, stepP s i.late, i.fuel - 1, ?_, ?_, i.sl, sorted_step, fun x hx => mem_stepP.mpr (.inl hx), ok_step hs i.ok⟩, ?_, S.sub fun y => ?_, trivial⟩
        · have e := i.eq
          obtain ⟨k, hk⟩ : ∃ k, i.fuel = k + 1 := ⟨i.fuel - 1, by omega⟩
          rw [hk, closF, if_pos hne] at e
          rw [hk]; exact e
        · have := i.room; omega
        · show i.fuel - 1 < i.fuel; omega
        · by_cases e1 : y = "found"
          · subst e1; exact .inr rfl
          · by_cases e2 : y = "late"
            · subst e2; exact .inr rfl
            · have e1' : (y == ("found" : Str)) = false := by simpa using e1
              have e2' : (y == ("late" : Str)) = false := by simpa using e2
              right; simp only [List.lookup_cons, e1', e2']
    · have he : i.late = i.found := by simpa using hi
      have e : i.found = closureP s := by
        rw [← i.eq]
        cases i.fuel with
        | zero => rfl
        | succ k => rw [closF, if_neg (by simp [he])]
      exact bg_ret stj_true (by first | exact ev_local (by assumption) rfl rfl rfl | exact ev_cell' (by assumption) rfl rfl rfl rfl) fun h v S _ r => ⟨v, rfl, e ▸ r⟩

theorem closF_ok {n : Nat} {s : List (List Int)} (hs : OkS n 2 s) : ∀ f found late, OkS n 2 found → OkS n 2 late → OkS n 2 (closF s f found late)
  | 0, _, _, h, _ => h
  | f + 1, found, late, h, h' => by
    rw [closF]
    split
    · exact closF_ok hs f late _ h' (ok_step hs h')
    · exact h
theorem closure_ok {n : Nat} {s : List (List Int)} (hs : OkS n 2 s) : OkS n 2 (closureP s) := closF_ok hs _ _ _ (fun _ h => nomatch h) hs
theorem closF_sorted {s : List (List Int)} : ∀ f found late, Sorted found → Sorted late → Sorted (closF s f found late)
  | 0, _, _, h, _ => h
  | f + 1, found, late, h, h' => by
    rw [closF]
    split
    · exact closF_sorted f late _ h' sorted_step
    · exact h
theorem closure_sorted {s : List (List Int)} (hs : Sorted s) : Sorted (closureP s) := closF_sorted _ _ _ List.Pairwise.nil hs
theorem ok_iden {n : Nat} : OkS n 2 (idenP n) := fun r hr => by
  obtain ⟨i, hi, rfl⟩ := List.mem_map.mp hr
  rw [List.mem_range] at hi
  refine ⟨rfl, fun x hx => ?_⟩
  simp only [List.mem_cons, List.not_mem_nil, or_false, or_self] at hx
  subst hx; omega

noncomputable def starP (n : Nat) (s : List (List Int)) := unionP (closureP s) (idenP n)

theorem c_star (G : Gnd g mg mb) (hA : Room 11 A) {fa : Addr} (ha : mg Fstar.name = some (.ref fa)) {n : Nat} (hn : n ≤ 3) {s : List (List Int)} (hs : OkS n 2 s) (hss : Sorted s) : Cl prog w g A X (.ref fa) [rowsT s, .int n] (rowsT (starP n s)) := by
  refine cl_def G (d := Fstar) (by simp [recs]) ha (k := 10) (names := ["s", "n"]) hA rfl (fun _ _ _ vs h => ?_) rfl (by decide) rfl rfl rfl fun L cd X' H hA' => ?_
  · match vs, h with
    | [v, u], _ => rfl
  · obtain ⟨au, hau, hCu⟩ := fn_of G (d := Funion) (by simp [recs])
    obtain ⟨ac, hac, hCc⟩ := fn_of G (d := Fclosure) (by simp [recs])
    obtain ⟨ai, hai, hCi⟩ := fn_of G (d := Fiden_of) (by simp [recs])
    have oc := closure_ok hs
    have hc := ok_27 hn (by decide) oc (sorted_nodup (closure_sorted hss))
    refine bg_ret stj_true (ev_call H (ev_glob G H hau rfl rfl) hCu (evl_cons (r := rowsT (closureP s)) ?_ rfl (evl_cons (r := rowsT (idenP n)) ?_ rfl evl_nil)) (c_union G (hA'.le (by decide)) hau ?_ (firsts_64 hn (by decide) (oc.app ok_iden)) (ok_ne (by decide) (oc.app ok_iden))) rfl) fun h v S _ r => ⟨v, rfl, r⟩
    · exact ev_call H (ev_glob G H hac rfl rfl) hCc (evl_cons (by first | exact ev_local (by assumption) rfl rfl rfl | exact ev_cell' (by assumption) rfl rfl rfl rfl) rfl evl_nil) (c_closure G (hA'.le (by decide)) hac hn hs hss) rfl
    · exact ev_call H (ev_glob G H hai rfl rfl) hCi (evl_cons (by first | exact ev_local (by assumption) rfl rfl rfl | exact ev_cell' (by assumption) rfl rfl rfl rfl) rfl evl_nil) (c_iden G (hA'.le (by decide)) hai (by omega)) rfl
    · have : (idenP n).length = n := by simp [idenP]
      omega
end
end Mine
end

section
open PySem PySem.W PyProof.Rows
set_option Elab.async false
set_option maxRecDepth 100000
set_option linter.unusedVariables false
namespace Mine
section
variable {prog : Program} {w : World} {g : Heap} {mg mb : Str → Option Value} {A : Around} {env : Env} {X X' Y Z : Addr → Prop} {σ σ' : List (Str × AV)} {E : Value → Shared → Prop} {J J' : Heap → Prop} {R : Flow → Heap → Prop}

theorem StJ.ks {s s' : Shared} (hJ : StJ env J) (j : J s.heap) (k : Keeps s s') : J s'.heap := hJ _ _ (keeps_kp k).x j
theorem stj_and (h : StJ env J) (h' : StJ env J') : StJ env (fun h => J h ∧ J' h) := fun a b k j => ⟨h a b k j.1, h' a b k j.2⟩
theorem stj_acc {D : Addr} {l : List AV} (hO : ∀ b, Own env b → X b) (hDO : ¬ Own env D) : StJ env (fun h => Acc X h D l) := fun h h' k a => a.move (k.mono fun b hb => hO b hb).move fun o e => k _ o hDO e

theorem bgj_assign {x p e pos rest r} (H : Fm g env X) (hZ : ∀ b, Own env b → Z b) (hJ : StJ env J) (he : EvJ prog w g A env X σ J e r)
    (hk : env.kindOf x = some .local ∨ env.kindOf x = some .cell ∧ ∃ c, env.cells.lookup x = some c) (hs : swapsWith e (some (.Name x p)) pos.line env = pure false)
    (h : Bg prog w g A env X Z ((x, r) :: σ) J rest R) : Bg prog w g A env X Z σ J (.Assign [.Name x p] e pos :: rest) R := fun s S j => by
  refine wpAny_execs_cons (wpAny_Assign_Name (wpAny_mono (he s S j) (fun v s₁ ⟨k₁, r₁⟩ => ?_) fun _ _ e => e) hs)
  refine store_name H (S.ks k₁) r₁ hk fun s₂ k₂ S₂ => ?_
  have j₂ := hJ _ _ k₂.kp (hJ.ks j k₁)
  exact wpAny_mono (h s₂ S₂ j₂) (fun f s₃ ⟨k₃, q⟩ => ⟨((keeps_x k₁).trans (k₂.mono hZ)).trans k₃, q⟩) fun _ _ e => e
theorem bgj_ret {e pos rest r} (hJ : StJ env J) (he : EvJ prog w g A env X σ J e r) (h : ∀ h v, St g env X σ h → J h → Rel X h r v → R (.ret v) h) : Bg prog w g A env X Z σ J (.Return (some e) pos :: rest) R := fun s S j => by
  refine wpAny_execs_cons (wpAny_Return_some (wpAny_mono (he s S j) (fun v s₁ ⟨k₁, r₁⟩ => ?_) fun _ _ e => e))
  exact ⟨keeps_x k₁, h _ v (S.ks k₁) (hJ.ks j k₁) r₁⟩
theorem bgj_if_next {t body pos rest} {b : Bool} (hJ : StJ env J) (ht : TrJ prog w g A env X σ J t b)
    (h1 : b = true → Bg prog w g A env X Z σ J body (fun f h => f = .next ∧ St g env X σ h ∧ J' h)) (h2 : b = false → ∀ h, J h → J' h) (h3 : Bg prog w g A env X Z σ J' rest R) :
    Bg prog w g A env X Z σ J (.If t body [] pos :: rest) R := fun s S j => by
  refine wpAny_execs_cons (wpAny_If (wpAny_mono (ht s S j) (fun c s₁ ⟨k₁, e⟩ => ?_) fun _ _ e => e))
  subst e
  have j₁ := hJ.ks j k₁
  cases c with
  | true =>
    rw [if_pos rfl]
    refine wpAny_mono (h1 rfl s₁ (S.ks k₁) j₁) (fun f s₂ ⟨k₂, q⟩ => ?_) fun _ _ e => e
    obtain ⟨rfl, S₂, j₂⟩ := q
    exact wpAny_mono (h3 s₂ S₂ j₂) (fun f s₃ ⟨k₃, q⟩ => ⟨((keeps_x k₁).trans k₂).trans k₃, q⟩) fun _ _ e => e
  | false =>
    rw [if_neg (by simp)]
    refine wpAny_execs_nil ?_
    exact wpAny_mono (h3 s₁ (S.ks k₁) (h2 rfl _ j₁)) (fun f s₂ ⟨k₂, q⟩ => ⟨(keeps_x k₁).trans k₂, q⟩) fun _ _ e => e

/-- x = [] that is filled later -/
theorem bg_new_list {x : Str} {p lp pos : Pos} {rest : List Stmt} (H : Fm g env X) (hZ : ∀ b, Own env b → Z b)
    (hk : env.kindOf x = some .local ∨ env.kindOf x = some .cell ∧ ∃ c, env.cells.lookup x = some c) (hs : swapsWith (.List [] lp) (some (.Name x p)) pos.line env = pure false)
    (h : ∀ D, ¬ X D → Fm g env (fun b => X b ∨ b = D) → Bg prog w g A env (fun b => X b ∨ b = D) (fun b => Z b ∨ b = D) ((x, .val (.ref D)) :: σ) (fun h => Acc (fun b => X b ∨ b = D) h D []) rest R) :
    Bg prog w g A env X Z σ (fun _ => True) (.Assign [.Name x p] (.List [] lp) pos :: rest) R := fun s S _ => by
  refine wpAny_execs_cons (wpAny_Assign_Name (list_nil ?_) hs)
  have kd := keeps_push s { cls := .type "list", data := .seq #[] }
  generalize hd : s.heap.objs.size = D at kd ⊢
  have fr : s.heap.get? D = none := Heap.get?_none_of_le (Nat.le_of_eq hd)
  have od : (s.heap.push { cls := .type "list", data := .seq #[] }).get? D = some (seqObj "list" #[] 0) := hd ▸ Heap.get?_push_size _ rfl
  generalize hs1 : ({ s with heap := s.heap.push { cls := .type "list", data := .seq #[] } } : Shared) = s₁ at kd ⊢
  have od : s₁.heap.get? D = some (seqObj "list" #[] 0) := hs1 ▸ od
  have hDX : ¬ X D := fun hb => by obtain ⟨o, ho⟩ := S.lv _ hb; rw [fr] at ho; cases ho
  have hDO : ¬ Own env D := fun hb => hDX (own_x H hb)
  have M1 : Move X s.heap (fun b => X b ∨ b = D) s₁.heap := fun b o hb e => ⟨fun q => q.elim hb fun q => (by rw [q, fr] at e; cases e), keeps_kp kd b o e⟩
  have H₁ : Fm g env (fun b => X b ∨ b = D) := H.mono (fun b hb => .inl hb) fun b hb => hb.elim (H.xg b) fun q => q ▸ none_of S.kg fr
  have S₁ := S.move M1 (S.kg.trans (keeps_kp kd)) (fun b o _ e => keeps_kp kd b o e) fun b hb => hb.elim (fun q => let ⟨o, ho⟩ := S.lv b q; ⟨o, keeps_kp kd b o ho⟩) fun q => ⟨_, q ▸ od⟩
  refine store_name H₁ S₁ (av := .val (.ref D)) (by simp only [Rel]) hk fun s₂ k₂ S₂ => ?_
  have acc : Acc (fun b => X b ∨ b = D) s₂.heap D [] := ⟨[], ⟨0, k₂.kp _ _ hDO od⟩, by simp only [RelL]⟩
  refine wpAny_mono (h D hDX H₁ s₂ S₂ acc) (fun f s₃ ⟨k₃, q⟩ => ⟨?_, q⟩) fun _ _ e => e
  obtain ⟨h1, t1, rfl, q1⟩ := kd
  obtain ⟨h2, t2, rfl, q2⟩ := k₂
  obtain ⟨h3, t3, rfl, q3⟩ := k₃
  exact ⟨h3, t3, rfl, fun b o hb e => q3 b o (fun z => z.elim hb fun z => by rw [z, fr] at e; cases e) (q2 b o (fun z => hb (hZ b z)) (q1 b o e))⟩

/-- x.append(e) -/
theorem bg_append {o e : Expr} {ap p pos : Pos} {rest : List Stmt} {D : Addr} {l : List AV} {r : AV} (H : Fm g env X) (hDX : X D) (hDO : ¬ Own env D) (hZD : Z D) (hJ : StJ env J) (hJD : ∀ h h', J h → KpX (· = D) h h' → J h') (hz : l.length ≤ 100000)
    (ho : Ev prog w g A env X σ o (.val (.ref D))) (he : EvJ prog w g A env X σ (fun h => J h ∧ Acc X h D l) e r) (hi : interactive env = false) (hsw : swapsWith (.Call (.Attribute o "append" ap) [e] [] p) none pos.line env = pure false)
    (b1 : attributeBase o "append" env (eval o env) = eval o env) (l1 : (ap.endLine == p.line) = true) (t1 : backTo p (starEach [e] env) = [(false, eval e env)])
    (h : Bg prog w g A env X Z σ (fun h => J h ∧ Acc X h D (l ++ [r])) rest R) : Bg prog w g A env X Z σ (fun h => J h ∧ Acc X h D l) (.Expr (.Call (.Attribute o "append" ap) [e] [] p) pos :: rest) R := fun s S j => by
  have hJA : StJ env (fun h => J h ∧ Acc X h D l) := stj_and hJ (stj_acc (fun b hb => own_x H hb) hDO)
  refine wpAny_execs_cons (wpAny_Expr_any (wpAny_Call_append b1 (by rw [t1]; rfl) l1 t1 (wpAny_mono (ho s S) (fun v s₁ ⟨k₁, r₁⟩ => ?_) fun _ _ e => e)) hi hsw)
  simp only [Rel] at r₁
  subst r₁
  have j₁ := hJA.ks j k₁
  obtain ⟨vs, ⟨n, hv⟩, q⟩ := id j₁.2
  refine ⟨D, vs.toArray, rfl, ⟨_, n, hv, rfl, rfl, rfl⟩, wpAny_mono (he s₁ (S.ks k₁) j₁) (fun y s₂ ⟨k₂, r₂⟩ => ?_) fun _ _ e => e⟩
  have j₂ := hJA.ks j₁ k₂
  have S₂ := (S.ks k₁).ks k₂
  refine acc_push hDX j₂.2 r₂ hz fun s₃ k₃ o₃ acc₃ => ?_
  have S₃ := S₂.kx H k₃ fun b hb => ⟨hb ▸ hDX, hb ▸ hDO, hb ▸ o₃⟩
  exact wpAny_mono (h s₃ S₃ ⟨hJD _ _ j₂.1 k₃.kp, acc₃⟩) (fun f s₄ ⟨k₄, q⟩ => ⟨((keeps_x (keeps_trans k₁ k₂)).trans (k₃.mono fun b hb => hb ▸ hZD)).trans k₄, q⟩) fun _ _ e => e

/-- the list, read -/
theorem demote {h : Heap} {x : Str} {D : Addr} {l : List AV} (S : St g env X σ h) (acc : Acc X h D l) (hx : σ.lookup x = some (.val (.ref D))) (hsub : ∀ b, Y b → X b) (hDY : ¬ Y D) : St g env Y ((x, .list l) :: σ) h := by
  have S' : St g env Y σ h := S.move (Move.less hsub) S.kg (fun _ _ _ e => e) fun b hb => S.lv b (hsub b hb)
  refine S'.retype hx ?_
  obtain ⟨vs, ⟨n, hv⟩, q⟩ := acc
  simp only [Rel]
  exact ⟨D, vs, n, rfl, hDY, hv, q.move (Move.less hsub)⟩
theorem tr_demote {x : Str} {D : Addr} {l : List AV} {e : Expr} {b : Bool} (hx : σ.lookup x = some (.val (.ref D))) (hsub : ∀ b, Y b → X b) (hDY : ¬ Y D) (h : Tr prog w g A env Y ((x, .list l) :: σ) e b) : TrJ prog w g A env X σ (fun h => Acc X h D l) e b := fun s S j =>
  h s (demote S j hx hsub hDY)
theorem evj_mono {e : Expr} {r : AV} (h : EvJ prog w g A env X σ J e r) (hj : ∀ h, J' h → J h) : EvJ prog w g A env X σ J' e r := fun s S j => h s S (hj _ j)
end
end Mine
end

section
open PySem PySem.W PyProof.Rows
set_option Elab.async false
set_option maxRecDepth 100000
set_option linter.unusedVariables false
namespace Mine

noncomputable def innerP (some : List (List Int)) (x : Int) (l : List Int) (k : Nat) : List Int := (List.range k).foldl (fun l (a : Nat) => if decide ([x, (a : Int)] ∈ some) && decide ((a : Int) ∉ l) then l ++ [(a : Int)] else l) l
noncomputable def reachF (some : List (List Int)) (n : Nat) : Nat → Nat → List Int → List Int
  | 0, _, l => l
  | f + 1, spot, l => if spot < l.length then reachF some n f (spot + 1) (innerP some (l.getD spot 0) l n) else l
noncomputable def firstP (some : List (List Int)) (begin : Int) (k : Nat) : List Int := ((List.range k).filter fun (a : Nat) => decide ([begin, (a : Int)] ∈ some)).map fun (a : Nat) => (a : Int)
noncomputable def reachedP (n : Nat) (some : List (List Int)) (begin : Int) : List Int := reachF some n (n + 1) 0 (firstP some begin n)

theorem innerP_succ (some : List (List Int)) (x : Int) (l : List Int) (k : Nat) : innerP some x l (k + 1) = if decide ([x, (k : Int)] ∈ some) && decide ((k : Int) ∉ innerP some x l k) then innerP some x l k ++ [(k : Int)] else innerP some x l k := by
  unfold innerP; rw [List.range_succ, List.foldl_append]; rfl
theorem firstP_succ (some : List (List Int)) (b : Int) (k : Nat) : firstP some b (k + 1) = if decide ([b, (k : Int)] ∈ some) then firstP some b k ++ [(k : Int)] else firstP some b k := by
  unfold firstP
  rw [List.range_succ, List.filter_append, List.map_append, List.filter_cons, List.filter_nil]
  split <;> simp_all

structure GoodL (n : Nat) (l : List Int) : Prop where
  nd : l.Nodup
  bd : ∀ x ∈ l, 0 ≤ x ∧ x < n
theorem GoodL.len {n : Nat} {l : List Int} (h : GoodL n l) : l.length ≤ n := by
  have := h.nd.length_le_of_subset (l₂ := (List.range n).map fun (a : Nat) => (a : Int)) fun x hx => by
    obtain ⟨h1, h2⟩ := h.bd x hx
    exact List.mem_map.mpr ⟨x.toNat, List.mem_range.mpr (by omega), by omega⟩
  simpa using this
theorem goodL_snoc {n k : Nat} {l : List Int} (h : GoodL n l) (hk : k < n) (hm : (k : Int) ∉ l) : GoodL n (l ++ [(k : Int)]) := by
  refine ⟨?_, fun x hx => ?_⟩
  · rw [List.nodup_append]
    exact ⟨h.nd, by simp, fun a ha b hb => by rw [List.mem_singleton] at hb; rintro rfl; exact hm (hb ▸ ha)⟩
  · rcases List.mem_append.mp hx with q | q
    · exact h.bd x q
    · rw [List.mem_singleton] at q; subst q; exact ⟨by omega, by omega⟩
theorem innerP_good {n : Nat} {some : List (List Int)} {x : Int} {l : List Int} (h : GoodL n l) : ∀ k, k ≤ n → GoodL n (innerP some x l k)
  | 0, _ => h
  | k + 1, hk => by
    have ih := innerP_good (some := some) (x := x) h k (by omega)
    rw [innerP_succ]
    split
    · rename_i hc
      simp only [Bool.and_eq_true, decide_eq_true_eq] at hc
      exact goodL_snoc ih (by omega) hc.2
    · exact ih
theorem innerP_len {some : List (List Int)} {x : Int} {l : List Int} : ∀ k, l.length ≤ (innerP some x l k).length ∧ ∀ i, i < l.length → (innerP some x l k)[i]? = l[i]?
  | 0 => ⟨Nat.le_refl _, fun _ _ => rfl⟩
  | k + 1 => by
    obtain ⟨h1, h2⟩ := innerP_len (some := some) (x := x) (l := l) k
    rw [innerP_succ]
    split
    · exact ⟨by rw [List.length_append]; omega, fun i hi => by rw [List.getElem?_append_left (by omega)]; exact h2 i hi⟩
    · exact ⟨h1, h2⟩
theorem firstP_good {n : Nat} {some : List (List Int)} {b : Int} : ∀ k, k ≤ n → GoodL n (firstP some b k) ∧ ∀ x ∈ firstP some b k, x < k
  | 0, _ => ⟨⟨List.nodup_nil, fun _ h => nomatch h⟩, fun _ h => nomatch h⟩
  | k + 1, hk => by
    obtain ⟨h1, h2⟩ := firstP_good (n := n) (some := some) (b := b) k (by omega)
    rw [firstP_succ]
    split
    · refine ⟨goodL_snoc h1 (by omega) fun hm => by have := h2 _ hm; omega, fun x hx => ?_⟩
      rcases List.mem_append.mp hx with q | q
      · have := h2 x q; omega
      · rw [List.mem_singleton] at q; subst q; omega
    · exact ⟨h1, fun x hx => by have := h2 x hx; omega⟩

section
variable {prog : Program} {w : World} {g : Heap} {mg mb : Str → Option Value} {A : Around} {env : Env} {X X' Y Z : Addr → Prop} {σ σ' : List (Str × AV)} {E : Value → Shared → Prop} {J : Heap → Prop} {R : Flow → Heap → Prop}

theorem stub_mv : ∀ (X X' : Addr → Prop) (k : Nat) (h h' : Heap), (fun (_ : Addr → Prop) (_ : Nat) (_ : Heap) => True) X k h → Move X h X' h' → (∀ b o, (fun _ => False) b → h.get? b = some o → h'.get? b = some o) → (fun (_ : Addr → Prop) (_ : Nat) (_ : Heap) => True) X' k h' := fun _ _ _ _ _ _ _ _ => trivial

theorem c_rows (G : Gnd g mg mb) (hA : Room 5 A) {fa : Addr} (ha : mg Flaw_rows.name = some (.ref fa)) {n a : Nat} (hn : n ≤ 3) (ha3 : a ≤ 3) : Cl prog w g A X (.ref fa) [.int n, .int a] (rowsL (rowsP n a)) := by
  refine cl_def G (d := Flaw_rows) (by simp [recs]) ha (k := 4) (names := ["n", "arity"]) hA rfl (fun _ _ _ vs h => ?_) rfl (by decide) rfl rfl rfl fun L cd X' H hA' => ?_
  · match vs, h with
    | [v, u], _ => rfl
  · refine bg_assign H (fun _ h => h) stj_true (r := rowsL (rowsP n 0)) (ev_list H (evl_cons (ev_tuple H evl_nil (by simp)) rfl evl_nil) (by simp [rowsP])) (.inl rfl) rfl ?_
    refine bg_for (xs := List.range a) (enc := fun (i : Nat) => .int i) (src := .rng a) (σf := fun k => [("found", rowsL (rowsP n k)), ("n", .int n), ("arity", .int a)]) (Jf := fun _ _ _ => True) (Mut := fun _ => False) H hA'.hh (fun _ => rfl)
      (ev_call H (by exact ev_boot (by assumption) (by assumption) (by simp [bnames]) rfl rfl rfl) (.inr (.inl ⟨_, rfl⟩)) (evl_cons (by first | exact ev_local (by assumption) rfl rfl rfl | exact ev_cell' (by assumption) rfl rfl rfl rfl) rfl evl_nil) cl_range rfl) (.rng a (by omega)) (.inl rfl) (fun _ h => h) (fun _ h => own_x H h) (fun _ h => h.elim) (fun _ h => h.elim) stub_mv (fun _ => .inr rfl) (fun _ _ _ => trivial) (fun I hI HI k i hk => ?_) ?_
    · have hka : k < a := by have := (List.getElem?_eq_some_iff.mp hk).1; simpa using this
      have hfl : ((rowsP n k).flatMap fun x => ((List.range n).filter fun _ => true).map fun (i : Nat) => row (x ++ [(i : Int)])) = (rowsP n (k + 1)).map row := by
        rw [rowsP, List.map_flatMap]
        congr 1; funext x
        rw [List.filter_eq_self.mpr fun _ _ => rfl, List.map_map]; rfl
      have hlen : (rowsP n (k + 1)).length ≤ 27 := by rw [rowsP_len]; exact pow_le hn (by omega)
      refine bg_cp HI hA'.hh (fun _ h => h) stj_true (cp_two (xs := rowsP n k) (enc := row) (bd := fun x => [("row", row x), ("n", .int n)]) (src := rowsL (rowsP n k)) (src2 := fun _ => .rng n) (ys := fun _ => List.range n) (enc2 := fun _ (i : Nat) => .int i) (f := fun x (i : Nat) => row (x ++ [(i : Int)])) (pz := fun _ _ => true) (bd2 := fun x (i : Nat) => [("a", .int i), ("row", row x), ("n", .int n)]) hA'.hh (fun _ => rfl) rfl rfl (by decide) (by first | exact ev_local (by assumption) rfl rfl rfl | exact ev_cell' (by assumption) rfl rfl rfl rfl) (.list _) (fun _ _ => rfl) (by rw [hfl, List.length_map]; omega) ?_ ?_) rfl rfl ?_
      · intro C Y HC x hx
        exact ⟨asg_nm HC rfl, sub_cons rfl, ev_call HC (by exact ev_boot (by assumption) (by assumption) (by simp [bnames]) rfl rfl rfl) (.inr (.inl ⟨_, rfl⟩)) (evl_cons (by first | exact ev_local (by assumption) rfl rfl rfl | exact ev_cell' (by assumption) rfl rfl rfl rfl) rfl evl_nil) cl_range rfl, .rng n (by omega)⟩
      · intro C Y HC x hx i hi
        have hxl : x.length ≤ 1000 := by have := (mem_rowsP.mp hx).1; omega
        exact ⟨asg_nm HC rfl, sub_cons rfl, tests_nil, fun _ => ev_bin HC (by first | exact ev_local (by assumption) rfl rfl rfl | exact ev_cell' (by assumption) rfl rfl rfl rfl) (ev_tuple HC (evl_cons (by first | exact ev_local (by assumption) rfl rfl rfl | exact ev_cell' (by assumption) rfl rfl rfl rfl) rfl evl_nil) (by simp)) (op_catR (r' := [(i : Int)]) (by simp; omega))⟩
      · rw [hfl]
        refine bg_nil fun h S _ => ⟨rfl, S.sub fun y => ?_, trivial⟩
        by_cases e1 : y = "found"
        · subst e1; exact .inr rfl
        · by_cases e2 : y = "k"
          · subst e2; exact .inl rfl
          · have e1' : (y == ("found" : Str)) = false := by simpa using e1
            have e2' : (y == ("k" : Str)) = false := by simpa using e2
            right; simp only [List.lookup_cons, e1', e2']
    · rw [List.length_range]
      exact bg_ret stj_true (by first | exact ev_local (by assumption) rfl rfl rfl | exact ev_cell' (by assumption) rfl rfl rfl rfl) fun h v S _ r => ⟨v, rfl, r⟩

noncomputable abbrev intsA (l : List Int) : List AV := l.map .int

/-- what of a store is asked: name by name -/
noncomputable def Ask : List (Str × AV) → List (Str × AV) → Prop
  | [], _ => True
  | (x, a) :: r, σ => σ.lookup x = some a ∧ Ask r σ
theorem ask_lookup : ∀ {σ' σ : List (Str × AV)}, Ask σ' σ → ∀ y, σ'.lookup y = none ∨ σ'.lookup y = σ.lookup y
  | [], _, _, _ => .inl rfl
  | (x, a) :: r, σ, ⟨h1, h2⟩, y => by
    rw [List.lookup_cons]
    by_cases e : y = x
    · subst e; right; simp [h1]
    · have e' : (y == x) = false := by simpa using e
      rw [e']; exact ask_lookup h2 y

theorem c_reached (G : Gnd g mg mb) (hA : Room 7 A) {fa : Addr} (ha : mg Flaw_reached.name = some (.ref fa)) {n : Nat} (hn : n ≤ 3) {some_ : List (List Int)} {begin_ : Int} : Cl prog w g A X (.ref fa) [.int n, .rows some_, .int begin_] (.list (intsA (reachedP n some_ begin_))) := by
  refine cl_def G (d := Flaw_reached) (by simp [recs]) ha (k := 6) (names := ["n", "some", "begin"]) hA rfl (fun _ _ _ vs h => ?_) rfl (by decide) rfl rfl rfl fun L cd X' H hA' => ?_
  · match vs, h with
    | [v, u, x], _ => rfl
  · refine bg_new_list H (fun _ h => h) (.inl rfl) rfl fun D hDX HD => ?_
    have hDO : ¬ Own (envOfC Flaw_reached.name Flaw_reached.scope L fa cd) D := fun hb => hDX (own_x H hb)
    have accMv : ∀ (l : Nat → List Int) (X X' : Addr → Prop) (k : Nat) (h h' : Heap), Acc X h D (intsA (l k)) → Move X h X' h' → (∀ b o, b = D → h.get? b = some o → h'.get? b = some o) → Acc X' h' D (intsA (l k)) := fun l X X' k h h' a M e => a.move M fun o => e D o rfl
    -- the first loop
    refine bg_for (xs := List.range n) (enc := fun (i : Nat) => .int i) (src := .rng n) (σf := fun _ => [("found", .val (.ref D)), ("n", .int n), ("some", .rows some_), ("begin", .int begin_)]) (Jf := fun X k h => Acc X h D (intsA (firstP some_ begin_ k))) (Mut := fun b => b = D) HD hA'.hh (fun _ => rfl)
      (ev_call HD (by exact ev_boot (by assumption) (by assumption) (by simp [bnames]) rfl rfl rfl) (.inr (.inl ⟨_, rfl⟩)) (evl_cons (by first | exact ev_local (by assumption) rfl rfl rfl | exact ev_cell' (by assumption) rfl rfl rfl rfl) rfl evl_nil) cl_range rfl) (.rng n (by omega)) (.inl rfl) (fun b hb => .inl hb) (fun b hb => hb.elim (fun q => .inl (own_x H q)) .inr) (fun b hb => .inr hb) (fun b hb => hb ▸ hDO) (accMv (fun k => firstP some_ begin_ k)) (fun _ => .inr rfl) (fun _ _ j => j) (fun I hI HI k i hk => ?_) ?_
    · have hik : i = k := by
        have := (List.getElem?_eq_some_iff.mp hk)
        obtain ⟨h1, h2⟩ := this
        simpa using h2.symm
      subst hik
      have hin : i < n := by have := (List.getElem?_eq_some_iff.mp hk).1; simpa using this
      have hz := ((firstP_good (n := n) (some := some_) (b := begin_) i (by omega)).1).len
      refine bgj_if_next (b := decide ([begin_, (i : Int)] ∈ some_)) (J' := fun h => Acc (fun b => (X' b ∨ b = D) ∨ b = I) h D (intsA (firstP some_ begin_ (i + 1)))) (stj_acc (fun b hb => .inl (.inl (own_x H hb))) hDO) (tr_j (tr_cmp HI (ev_tuple HI (evl_cons (by first | exact ev_local (by assumption) rfl rfl rfl | exact ev_cell' (by assumption) rfl rfl rfl rfl) rfl (evl_cons (by first | exact ev_local (by assumption) rfl rfl rfl | exact ev_cell' (by assumption) rfl rfl rfl rfl) rfl evl_nil)) (by simp)) (by first | exact ev_local (by assumption) rfl rfl rfl | exact ev_cell' (by assumption) rfl rfl rfl rfl) (op_in_rows (r := [begin_, (i : Int)]) hA') rfl)) (fun hb => ?_) (fun hb h a => ?_) ?_
      · refine bg_pre (J' := fun h => True ∧ Acc (fun b => (X' b ∨ b = D) ∨ b = I) h D (intsA (firstP some_ begin_ i))) (bg_append (J := fun _ => True) HI (.inl (.inr rfl)) hDO (.inr rfl) stj_true (fun _ _ _ _ => trivial) (by rw [List.length_map]; omega) (by first | exact ev_local (by assumption) rfl rfl rfl | exact ev_cell' (by assumption) rfl rfl rfl rfl) (ev_j (by first | exact ev_local (by assumption) rfl rfl rfl | exact ev_cell' (by assumption) rfl rfl rfl rfl)) rfl rfl rfl rfl rfl (bg_nil fun h S j => ⟨rfl, S, ?_⟩)) (fun _ _ j => ⟨trivial, j⟩) (fun _ => .inr rfl)
        have := j.2
        rw [firstP_succ, if_pos hb]
        simpa [intsA] using this
      · rw [firstP_succ, if_neg (by simpa using hb)]; exact a
      · exact bg_nil fun h S j => ⟨rfl, S.sub (ask_lookup ⟨rfl, rfl, rfl, rfl, trivial⟩), j⟩
    -- the second part
    rw [List.length_range]
    have hJ : StJ (envOfC Flaw_reached.name Flaw_reached.scope L fa cd) (fun h => Acc (fun b => X' b ∨ b = D) h D (intsA (firstP some_ begin_ n))) := stj_acc (fun b hb => .inl (own_x H hb)) hDO
    refine bg_assign HD (fun b hb => .inl hb) hJ (r := .int ((0 : Nat) : Int)) ev_int (.inl rfl) rfl ?_
    refine bg_pre (σ' := [("spot", .int ((0 : Nat) : Int)), ("found", .val (.ref D)), ("n", .int n), ("some", .rows some_), ("begin", .int begin_)]) (J' := fun h => Acc (fun b => X' b ∨ b = D) h D (intsA (firstP some_ begin_ n))) ?_ (fun _ _ j => j) (ask_lookup ⟨rfl, rfl, rfl, rfl, rfl, trivial⟩)
    refine bg_while (ι := { p : Nat × List Int × Nat // reachF some_ n p.2.2 p.1 p.2.1 = reachedP n some_ begin_ ∧ n + 1 ≤ p.1 + p.2.2 ∧ GoodL n p.2.1 }) (σf := fun p => [("spot", .int (p.1.1 : Int)), ("found", .val (.ref D)), ("n", .int n), ("some", .rows some_), ("begin", .int begin_)])
      (Jf := fun p h => Acc (fun b => X' b ∨ b = D) h D (intsA p.1.2.1)) (μ := fun p => p.1.2.2) (tb := fun p => decide ((p.1.1 : Int) < (intsA p.1.2.1).length)) (fun p => stj_acc (fun b hb => .inl (own_x H hb)) hDO) (fun p => ?_) (fun p hp => ?_) (fun p hp => ?_) ⟨(0, firstP some_ begin_ n, n + 1), rfl, by simp, (firstP_good n (Nat.le_refl n)).1⟩
    · have hz := p.2.2.2.len
      exact tr_demote (x := "found") rfl (fun b hb => .inl hb) hDX (tr_cmp H (by first | exact ev_local (by assumption) rfl rfl rfl | exact ev_cell' (by assumption) rfl rfl rfl rfl) (ev_call H (by exact ev_boot (by assumption) (by assumption) (by simp [bnames]) rfl rfl rfl) (.inl ⟨_, rfl⟩) (evl_cons (r := .list (intsA p.1.2.1)) (by first | exact ev_local (by assumption) rfl rfl rfl | exact ev_cell' (by assumption) rfl rfl rfl rfl) rfl evl_nil) (cl_lenL (by rw [List.length_map]; omega)) rfl) op_lt rfl)
    · obtain ⟨⟨spot, l, fuel⟩, he, hf, hg⟩ := p
      have hlt : spot < l.length := by simpa using hp
      have hlen : l.length ≤ n := hg.len
      have hx : l[spot]? = some (l.getD spot 0) := by simp [hlt]
      -- the inner loop
      refine bg_for (xs := List.range n) (enc := fun (i : Nat) => .int i) (src := .rng n) (σf := fun _ => [("spot", .int (spot : Int)), ("found", .val (.ref D)), ("n", .int n), ("some", .rows some_), ("begin", .int begin_)]) (Jf := fun X k h => Acc X h D (intsA (innerP some_ (l.getD spot 0) l k))) (Mut := fun b => b = D) HD hA'.hh (fun _ => rfl)
        (ev_call HD (by exact ev_boot (by assumption) (by assumption) (by simp [bnames]) rfl rfl rfl) (.inr (.inl ⟨_, rfl⟩)) (evl_cons (by first | exact ev_local (by assumption) rfl rfl rfl | exact ev_cell' (by assumption) rfl rfl rfl rfl) rfl evl_nil) cl_range rfl) (.rng n (by omega)) (.inl rfl) (fun b hb => .inl hb) (fun b hb => hb.elim (fun q => .inl (own_x H q)) .inr) (fun b hb => .inr hb) (fun b hb => hb ▸ hDO) (accMv (fun k => innerP some_ (l.getD spot 0) l k)) (fun _ => .inr rfl) (fun _ _ j => j) (fun I hI HI k i hk => ?_) ?_
      · have hik : i = k := by
          obtain ⟨h1, h2⟩ := (List.getElem?_eq_some_iff.mp hk)
          simpa using h2.symm
        subst hik
        have hin : i < n := by have := (List.getElem?_eq_some_iff.mp hk).1; simpa using this
        have hgi := innerP_good (some := some_) (x := l.getD spot 0) hg i (by omega)
        have hzi : (innerP some_ (l.getD spot 0) l i).length ≤ n := hgi.len
        obtain ⟨hl1, hl2⟩ := innerP_len (some := some_) (x := l.getD spot 0) (l := l) i
        refine bgj_if_next (b := decide ([l.getD spot 0, (i : Int)] ∈ some_) && decide ((i : Int) ∉ innerP some_ (l.getD spot 0) l i)) (J' := fun h => Acc (fun b => (X' b ∨ b = D) ∨ b = I) h D (intsA (innerP some_ (l.getD spot 0) l (i + 1)))) (stj_acc (fun b hb => .inl (.inl (own_x H hb))) hDO) ?_ (fun hb => ?_) (fun hb h a => ?_) ?_
        · refine tr_demote (Y := X') (x := "found") rfl (fun b hb => .inl (.inl hb)) hDX (tr_eq (tr_and (b := decide ([l.getD spot 0, (i : Int)] ∈ some_)) (c := !decide ((i : Int) ∈ innerP some_ (l.getD spot 0) l i)) ?_ fun _ => ?_) (by simp))
          · exact tr_cmp H (ev_tuple H (evl_cons (r := .int (l.getD spot 0)) (ev_itemL (k := spot) (l := intsA (innerP some_ (l.getD spot 0) l i)) (by first | exact ev_local (by assumption) rfl rfl rfl | exact ev_cell' (by assumption) rfl rfl rfl rfl) (by first | exact ev_local (by assumption) rfl rfl rfl | exact ev_cell' (by assumption) rfl rfl rfl rfl) (by rw [List.getElem?_map, hl2 spot hlt, hx]; rfl) (by omega) (fun _ _ => rfl)) rfl (evl_cons (by first | exact ev_local (by assumption) rfl rfl rfl | exact ev_cell' (by assumption) rfl rfl rfl rfl) rfl evl_nil)) (by simp)) (by first | exact ev_local (by assumption) rfl rfl rfl | exact ev_cell' (by assumption) rfl rfl rfl rfl) (op_in_rows (r := [l.getD spot 0, (i : Int)]) hA') rfl
          · exact tr_cmp H (by first | exact ev_local (by assumption) rfl rfl rfl | exact ev_cell' (by assumption) rfl rfl rfl rfl) (by first | exact ev_local (by assumption) rfl rfl rfl | exact ev_cell' (by assumption) rfl rfl rfl rfl) op_notin_intsL rfl
        · refine bg_pre (J' := fun h => True ∧ Acc (fun b => (X' b ∨ b = D) ∨ b = I) h D (intsA (innerP some_ (l.getD spot 0) l i))) (bg_append (J := fun _ => True) HI (.inl (.inr rfl)) hDO (.inr rfl) stj_true (fun _ _ _ _ => trivial) (by rw [List.length_map]; omega) (by first | exact ev_local (by assumption) rfl rfl rfl | exact ev_cell' (by assumption) rfl rfl rfl rfl) (ev_j (by first | exact ev_local (by assumption) rfl rfl rfl | exact ev_cell' (by assumption) rfl rfl rfl rfl)) rfl rfl rfl rfl rfl (bg_nil fun h S j => ⟨rfl, S, ?_⟩)) (fun _ _ j => ⟨trivial, j⟩) (fun _ => .inr rfl)
          have := j.2
          rw [innerP_succ, if_pos hb]
          simpa [intsA] using this
        · rw [innerP_succ, if_neg (by simpa using hb)]; exact a
        · exact bg_nil fun h S j => ⟨rfl, S.sub (ask_lookup ⟨rfl, rfl, rfl, rfl, rfl, trivial⟩), j⟩
      · rw [List.length_range]
        have hgn := innerP_good (some := some_) (x := l.getD spot 0) hg n (Nat.le_refl n)
        refine bg_assign HD (fun b hb => .inl hb) (stj_acc (fun b hb => .inl (own_x H hb)) hDO) (r := .int ((spot + 1 : Nat) : Int)) (ev_eq (ev_bin HD (by first | exact ev_local (by assumption) rfl rfl rfl | exact ev_cell' (by assumption) rfl rfl rfl rfl) ev_int op_add) (by rfl)) (.inl rfl) rfl (bg_nil fun h S j => ⟨rfl, ⟨(spot + 1, innerP some_ (l.getD spot 0) l n, fuel - 1), ?_, ?_, hgn⟩, ?_, S.sub (ask_lookup ⟨rfl, rfl, rfl, rfl, rfl, trivial⟩), j⟩)
        · obtain ⟨k, hk⟩ : ∃ k, fuel = k + 1 := ⟨fuel - 1, by dsimp only at hf; omega⟩
          subst hk
          dsimp only at he
          rw [reachF, if_pos hlt] at he
          exact he
        · dsimp only at hf ⊢; omega
        · dsimp only at hf ⊢; omega
    · obtain ⟨⟨spot, l, fuel⟩, he, hf, hg⟩ := p
      have hge : ¬ spot < l.length := by simpa using hp
      have el : l = reachedP n some_ begin_ := by
        rw [← he]
        cases fuel with
        | zero => rfl
        | succ k => show l = reachF some_ n (k + 1) spot l; rw [reachF, if_neg hge]
      refine bgj_ret (r := .val (.ref D)) (stj_acc (fun b hb => .inl (own_x H hb)) hDO) (ev_j (by first | exact ev_local (by assumption) rfl rfl rfl | exact ev_cell' (by assumption) rfl rfl rfl rfl)) fun h v S j r => ⟨v, rfl, ?_⟩
      simp only [Rel] at r
      subst r
      obtain ⟨vs, ⟨m, hv⟩, q⟩ := j
      dsimp only at q
      rw [el] at q
      simp only [Rel]
      exact ⟨D, vs, m, rfl, hDX, hv, q.move (Move.less fun b hb => .inl hb)⟩
end
end Mine
end

section
open PySem PySem.W PyProof.Rows
set_option Elab.async false
set_option maxRecDepth 100000
set_option linter.unusedVariables false
namespace Mine

noncomputable def isInP (word : Int) (n : Nat) (r : List Int) (a : Int) (P Q : List (List Int)) : Bool :=
  if word = 0 then decide (r ∈ P) || decide (r ∈ Q)
  else if word = 1 then decide (r ∈ P) && decide (r ∈ Q)
  else if word = 2 then decide (r ∈ P) && !decide (r ∈ Q)
  else if word = 3 then !(((List.range n).filter fun (c : Nat) => decide (cut none (some (a - 1)) r ++ [(c : Int)] ∈ P) && decide ([(c : Int)] ++ cut (some (a - 1)) none r ∈ Q)).map fun (c : Nat) => AV.int c).isEmpty
  else if word = 4 then decide (cut none (some a) r ∈ P) && decide (cut (some a) none r ∈ Q)
  else if word = 5 then decide ([r.getD 1 0, r.getD 0 0] ∈ P)
  else if word < 8 then decide (r.getD 1 0 ∈ reachedP n P (r.getD 0 0)) || (decide (word = 7) && decide (r.getD 0 0 = r.getD 1 0))
  else if word = 8 then decide (r ∈ Q) || (decide (r ∈ P) && (((setOf Q).filter fun x => decide (x.headD 0 = r.headD 0)).map row).isEmpty)
  else if word = 9 then decide (r ∈ Q) && decide (cut none (some 1) r ∈ P) else decide (r ∈ P) && decide (cut (some (-1)) none r ∈ Q)

section
variable {prog : Program} {w : World} {g : Heap} {mg mb : Str → Option Value} {A : Around} {env : Env} {X X' Y Z : Addr → Prop} {σ σ' : List (Str × AV)} {E : Value → Shared → Prop} {J : Heap → Prop} {R : Flow → Heap → Prop}

theorem cut_len {α : Type} (lo hi : Option Int) (r : List α) : (cut lo hi r).length ≤ r.length := by unfold cut; rw [List.length_take, List.length_drop]; omega

theorem c_is_in (G : Gnd g mg mb) (hA : Room 9 A) {fa : Addr} (ha : mg Flaw_is_in.name = some (.ref fa)) {n : Nat} (hn : n ≤ 3) {word a : Int} {r : List Int} {P Q : List (List Int)} (hr : r.length ≤ 1000) (hr0 : r ≠ []) (h2 : word = 5 ∨ word = 6 ∨ word = 7 → r.length = 2) (hw : 0 ≤ word ∧ word ≤ 10)
    (hQ : Q.length < 64) (hQ2 : (setOf Q).length ≤ 100) (hQn : ∀ x ∈ Q, x ≠ []) : Cl prog w g A X (.ref fa) [.int word, .int n, row r, .int a, .rows P, .rows Q] (.bool (isInP word n r a P Q)) := by
  refine cl_def G (d := Flaw_is_in) (by simp [recs]) ha (k := 8) (names := ["word", "n", "row", "a", "some", "other"]) hA rfl (fun _ _ _ vs h => ?_) rfl (by decide) rfl rfl rfl fun L cd X' H hA' => ?_
  · match vs, h with
    | [v, u, x, y, z, q], _ => rfl
  · obtain ⟨q1, q2⟩ := seq0 hr0
    have fin : ∀ {b : Bool} {h : Heap} {v : Value}, Rel X' h (.bool b) v → b = isInP word n r a P Q → Rt X' (.bool (isInP word n r a P Q)) (.ret v) h := fun rb e => ⟨_, rfl, e ▸ rb⟩
    refine bg_if rt_next stj_true (b := decide (word = 0)) (tr_cmp H (by first | exact ev_local (by assumption) rfl rfl rfl | exact ev_cell' (by assumption) rfl rfl rfl rfl) ev_int op_eq rfl) (fun h0 => ?_) fun h0 => ?_
    · exact bg_ret stj_true (ev_or (ev_cmp H (by first | exact ev_local (by assumption) rfl rfl rfl | exact ev_cell' (by assumption) rfl rfl rfl rfl) (by first | exact ev_local (by assumption) rfl rfl rfl | exact ev_cell' (by assumption) rfl rfl rfl rfl) (op_in_rows hA') rfl) fun _ => ev_cmp H (by first | exact ev_local (by assumption) rfl rfl rfl | exact ev_cell' (by assumption) rfl rfl rfl rfl) (by first | exact ev_local (by assumption) rfl rfl rfl | exact ev_cell' (by assumption) rfl rfl rfl rfl) (op_in_rows hA') rfl) fun h v S _ rb => fin rb (by unfold isInP; rw [if_pos (of_decide_eq_true h0)])
    have h0 := of_decide_eq_false h0
    refine bg_if rt_next stj_true (b := decide (word = 1)) (tr_cmp H (by first | exact ev_local (by assumption) rfl rfl rfl | exact ev_cell' (by assumption) rfl rfl rfl rfl) ev_int op_eq rfl) (fun h1 => ?_) fun h1 => ?_
    · exact bg_ret stj_true (ev_and (ev_cmp H (by first | exact ev_local (by assumption) rfl rfl rfl | exact ev_cell' (by assumption) rfl rfl rfl rfl) (by first | exact ev_local (by assumption) rfl rfl rfl | exact ev_cell' (by assumption) rfl rfl rfl rfl) (op_in_rows hA') rfl) fun _ => ev_cmp H (by first | exact ev_local (by assumption) rfl rfl rfl | exact ev_cell' (by assumption) rfl rfl rfl rfl) (by first | exact ev_local (by assumption) rfl rfl rfl | exact ev_cell' (by assumption) rfl rfl rfl rfl) (op_in_rows hA') rfl) fun h v S _ rb => fin rb (by unfold isInP; rw [if_neg h0, if_pos (of_decide_eq_true h1)])
    have h1 := of_decide_eq_false h1
    refine bg_if rt_next stj_true (b := decide (word = 2)) (tr_cmp H (by first | exact ev_local (by assumption) rfl rfl rfl | exact ev_cell' (by assumption) rfl rfl rfl rfl) ev_int op_eq rfl) (fun h2' => ?_) fun h2' => ?_
    · exact bg_ret stj_true (ev_and (ev_cmp H (by first | exact ev_local (by assumption) rfl rfl rfl | exact ev_cell' (by assumption) rfl rfl rfl rfl) (by first | exact ev_local (by assumption) rfl rfl rfl | exact ev_cell' (by assumption) rfl rfl rfl rfl) (op_in_rows hA') rfl) fun _ => ev_cmp H (by first | exact ev_local (by assumption) rfl rfl rfl | exact ev_cell' (by assumption) rfl rfl rfl rfl) (by first | exact ev_local (by assumption) rfl rfl rfl | exact ev_cell' (by assumption) rfl rfl rfl rfl) (op_notin_rows hA') rfl) fun h v S _ rb => fin rb (by unfold isInP; rw [if_neg h0, if_neg h1, if_pos (of_decide_eq_true h2')])
    have h2' := of_decide_eq_false h2'
    refine bg_if rt_next stj_true (b := decide (word = 3)) (tr_cmp H (by first | exact ev_local (by assumption) rfl rfl rfl | exact ev_cell' (by assumption) rfl rfl rfl rfl) ev_int op_eq rfl) (fun h3 => ?_) fun h3 => ?_
    · refine bg_ret stj_true (ev_cmp H (ev_cp H hA'.hh (cp_filter (xs := List.range n) (enc := fun (c : Nat) => .int c) (f := fun (c : Nat) => .int c) (pz := fun (c : Nat) => decide (cut none (some (a - 1)) r ++ [(c : Int)] ∈ P) && decide ([(c : Int)] ++ cut (some (a - 1)) none r ∈ Q)) (bd := fun (c : Nat) => [("c", .int c), ("row", row r), ("a", .int a), ("some", .rows P), ("other", .rows Q)]) (src := .rng n) (fun _ => rfl) rfl rfl (by decide) ?_ (.rng n (by omega)) (by simp; omega) ?_)) (ev_list H evl_nil (by simp)) (op_ne_nil hA') rfl) fun h v S _ rb => fin rb (by unfold isInP; rw [if_neg h0, if_neg h1, if_neg h2', if_pos (of_decide_eq_true h3)])
      · exact ev_call H (by exact ev_boot (by assumption) (by assumption) (by simp [bnames]) rfl rfl rfl) (.inr (.inl ⟨_, rfl⟩)) (evl_cons (by first | exact ev_local (by assumption) rfl rfl rfl | exact ev_cell' (by assumption) rfl rfl rfl rfl) rfl evl_nil) cl_range rfl
      · intro C Y HC c hc
        have l1 := cut_len none (some (a - 1)) r
        have l2 := cut_len (some (a - 1)) none r
        refine ⟨asg_nm HC rfl, fun y => ?_, tr_and (tr_cmp HC (ev_bin HC (ev_cut HC (by first | exact ev_local (by assumption) rfl rfl rfl | exact ev_cell' (by assumption) rfl rfl rfl rfl) evp_none (evp_some (ev_bin HC (by first | exact ev_local (by assumption) rfl rfl rfl | exact ev_cell' (by assumption) rfl rfl rfl rfl) ev_int op_sub)) (by omega)) (ev_tuple HC (evl_cons (by first | exact ev_local (by assumption) rfl rfl rfl | exact ev_cell' (by assumption) rfl rfl rfl rfl) rfl evl_nil) (by simp)) (op_catR (r' := [(c : Int)]) (by simp; omega))) (by first | exact ev_local (by assumption) rfl rfl rfl | exact ev_cell' (by assumption) rfl rfl rfl rfl) (op_in_rows hA') rfl) fun _ =>
          tr_cmp HC (ev_bin HC (ev_tuple HC (evl_cons (by first | exact ev_local (by assumption) rfl rfl rfl | exact ev_cell' (by assumption) rfl rfl rfl rfl) rfl evl_nil) (by simp)) (ev_cut HC (by first | exact ev_local (by assumption) rfl rfl rfl | exact ev_cell' (by assumption) rfl rfl rfl rfl) (evp_some (ev_bin HC (by first | exact ev_local (by assumption) rfl rfl rfl | exact ev_cell' (by assumption) rfl rfl rfl rfl) ev_int op_sub)) evp_none (by omega)) (op_catR (r := [(c : Int)]) (by simp; omega))) (by first | exact ev_local (by assumption) rfl rfl rfl | exact ev_cell' (by assumption) rfl rfl rfl rfl) (op_in_rows hA') rfl, (by first | exact ev_local (by assumption) rfl rfl rfl | exact ev_cell' (by assumption) rfl rfl rfl rfl)⟩
        exact sub_cons rfl y
    have h3 := of_decide_eq_false h3
    refine bg_if rt_next stj_true (b := decide (word = 4)) (tr_cmp H (by first | exact ev_local (by assumption) rfl rfl rfl | exact ev_cell' (by assumption) rfl rfl rfl rfl) ev_int op_eq rfl) (fun h4 => ?_) fun h4 => ?_
    · exact bg_ret stj_true (ev_and (ev_cmp H (ev_cut H (by first | exact ev_local (by assumption) rfl rfl rfl | exact ev_cell' (by assumption) rfl rfl rfl rfl) evp_none (evp_some (by first | exact ev_local (by assumption) rfl rfl rfl | exact ev_cell' (by assumption) rfl rfl rfl rfl)) (by omega)) (by first | exact ev_local (by assumption) rfl rfl rfl | exact ev_cell' (by assumption) rfl rfl rfl rfl) (op_in_rows hA') rfl) fun _ => ev_cmp H (ev_cut H (by first | exact ev_local (by assumption) rfl rfl rfl | exact ev_cell' (by assumption) rfl rfl rfl rfl) (evp_some (by first | exact ev_local (by assumption) rfl rfl rfl | exact ev_cell' (by assumption) rfl rfl rfl rfl)) evp_none (by omega)) (by first | exact ev_local (by assumption) rfl rfl rfl | exact ev_cell' (by assumption) rfl rfl rfl rfl) (op_in_rows hA') rfl) fun h v S _ rb => fin rb (by unfold isInP; rw [if_neg h0, if_neg h1, if_neg h2', if_neg h3, if_pos (of_decide_eq_true h4)])
    have h4 := of_decide_eq_false h4
    refine bg_if rt_next stj_true (b := decide (word = 5)) (tr_cmp H (by first | exact ev_local (by assumption) rfl rfl rfl | exact ev_cell' (by assumption) rfl rfl rfl rfl) ev_int op_eq rfl) (fun h5 => ?_) fun h5 => ?_
    · have hl := h2 (.inl (of_decide_eq_true h5))
      obtain ⟨x, y, rfl⟩ : ∃ x y, r = [x, y] := by match r, hl with | [x, y], _ => exact ⟨x, y, rfl⟩
      exact bg_ret stj_true (ev_cmp H (ev_tuple H (evl_cons (ev_at (k := 1) (j := 1) (i := y) (by first | exact ev_local (by assumption) rfl rfl rfl | exact ev_cell' (by assumption) rfl rfl rfl rfl) ev_int (by rw [seqIndex_of (by decide) (by simp)]; rfl) rfl (by decide) (fun _ _ => rfl)) rfl (evl_cons (ev_at (k := 0) (j := 0) (i := x) (by first | exact ev_local (by assumption) rfl rfl rfl | exact ev_cell' (by assumption) rfl rfl rfl rfl) ev_int (by rw [seqIndex_of (by decide) (by simp)]; rfl) rfl (by decide) (fun _ _ => rfl)) rfl evl_nil)) (by simp)) (by first | exact ev_local (by assumption) rfl rfl rfl | exact ev_cell' (by assumption) rfl rfl rfl rfl) (op_in_rows (r := [y, x]) hA') rfl) fun h v S _ rb => fin rb (by unfold isInP; rw [if_neg h0, if_neg h1, if_neg h2', if_neg h3, if_neg h4, if_pos (of_decide_eq_true h5)]; rfl)
    have h5 := of_decide_eq_false h5
    refine bg_if rt_next stj_true (b := decide (word < 8)) (tr_cmp H (by first | exact ev_local (by assumption) rfl rfl rfl | exact ev_cell' (by assumption) rfl rfl rfl rfl) ev_int op_lt rfl) (fun h6 => ?_) fun h6 => ?_
    · have h6' := of_decide_eq_true h6
      have hl := h2 (by omega)
      obtain ⟨x, y, rfl⟩ : ∃ x y, r = [x, y] := by match r, hl with | [x, y], _ => exact ⟨x, y, rfl⟩
      obtain ⟨ar, har, hCr⟩ := fn_of G (d := Flaw_reached) (by simp [recs])
      have e0 : ∀ {p p' pos : Pos} {kk}, Ev prog w g (A.deeper (envOfC Flaw_is_in.name Flaw_is_in.scope L fa cd)) (envOfC Flaw_is_in.name Flaw_is_in.scope L fa cd) X' [("word", .int word), ("n", .int n), ("row", row [x, y]), ("a", .int a), ("some", .rows P), ("other", .rows Q)] (.Subscript (.Name "row" p) (.Constant (.int 0) kk p') pos) (.int x) := fun {p p' pos kk} =>
        ev_at (k := 0) (j := 0) (i := x) (by first | exact ev_local (by assumption) rfl rfl rfl | exact ev_cell' (by assumption) rfl rfl rfl rfl) ev_int (by rw [seqIndex_of (by decide) (by simp)]; rfl) rfl (by decide) (fun _ _ => rfl)
      have e1 : ∀ {p p' pos : Pos} {kk}, Ev prog w g (A.deeper (envOfC Flaw_is_in.name Flaw_is_in.scope L fa cd)) (envOfC Flaw_is_in.name Flaw_is_in.scope L fa cd) X' [("word", .int word), ("n", .int n), ("row", row [x, y]), ("a", .int a), ("some", .rows P), ("other", .rows Q)] (.Subscript (.Name "row" p) (.Constant (.int 1) kk p') pos) (.int y) := fun {p p' pos kk} =>
        ev_at (k := 1) (j := 1) (i := y) (by first | exact ev_local (by assumption) rfl rfl rfl | exact ev_cell' (by assumption) rfl rfl rfl rfl) ev_int (by rw [seqIndex_of (by decide) (by simp)]; rfl) rfl (by decide) (fun _ _ => rfl)
      refine bg_ret stj_true (ev_or (b := decide (y ∈ reachedP n P x)) (c := decide (word = 7) && decide (x = y)) (ev_cmp H e1 (b := .list (intsA (reachedP n P x))) ?_ op_in_intsL rfl) fun _ => ev_and (ev_cmp H (by first | exact ev_local (by assumption) rfl rfl rfl | exact ev_cell' (by assumption) rfl rfl rfl rfl) ev_int op_eq rfl) fun _ => ev_cmp H e0 e1 op_eq rfl) fun h v S _ rb => fin rb (by unfold isInP; rw [if_neg h0, if_neg h1, if_neg h2', if_neg h3, if_neg h4, if_neg h5, if_pos h6']; rfl)
      exact ev_call H (ev_glob G H har rfl rfl) hCr (evl_cons (by first | exact ev_local (by assumption) rfl rfl rfl | exact ev_cell' (by assumption) rfl rfl rfl rfl) rfl (evl_cons (by first | exact ev_local (by assumption) rfl rfl rfl | exact ev_cell' (by assumption) rfl rfl rfl rfl) rfl (evl_cons e0 rfl evl_nil))) (c_reached G (hA'.le (by decide)) har hn) rfl
    have h6 := of_decide_eq_false h6
    refine bg_if rt_next stj_true (b := decide (word = 8)) (tr_cmp H (by first | exact ev_local (by assumption) rfl rfl rfl | exact ev_cell' (by assumption) rfl rfl rfl rfl) ev_int op_eq rfl) (fun h8 => ?_) fun h8 => ?_
    · refine bg_ret stj_true (ev_or (ev_cmp H (by first | exact ev_local (by assumption) rfl rfl rfl | exact ev_cell' (by assumption) rfl rfl rfl rfl) (by first | exact ev_local (by assumption) rfl rfl rfl | exact ev_cell' (by assumption) rfl rfl rfl rfl) (op_in_rows hA') rfl) fun _ => ev_and (ev_cmp H (by first | exact ev_local (by assumption) rfl rfl rfl | exact ev_cell' (by assumption) rfl rfl rfl rfl) (by first | exact ev_local (by assumption) rfl rfl rfl | exact ev_cell' (by assumption) rfl rfl rfl rfl) (op_in_rows hA') rfl) fun _ => ev_cmp H (ev_cp H hA'.hh (cp_filter (xs := setOf Q) (enc := row) (f := row) (pz := fun x => decide (x.headD 0 = r.headD 0)) (bd := fun x => [("late", row x), ("row", row r)]) (src := rowsL (setOf Q)) (fun _ => rfl) rfl rfl (by decide) ?_ (.list _) (by omega) ?_)) (ev_list H evl_nil (by simp)) (op_eq_nil hA') rfl) fun h v S _ rb => fin rb (by unfold isInP; rw [if_neg h0, if_neg h1, if_neg h2', if_neg h3, if_neg h4, if_neg h5, if_neg h6, if_pos (of_decide_eq_true h8)])
      · exact ev_call H (by exact ev_boot (by assumption) (by assumption) (by simp [bnames]) rfl rfl rfl) (.inl ⟨_, rfl⟩) (evl_cons (by first | exact ev_local (by assumption) rfl rfl rfl | exact ev_cell' (by assumption) rfl rfl rfl rfl) rfl evl_nil) (cl_sorted hA' hQ hQn fun m hp hs => sorted_ext hs (setOf_sorted Q) fun x => by rw [hp.mem_iff, mem_setOf]) rfl
      · intro C Y HC x hx
        obtain ⟨p1, p2⟩ := seq0 (hQn x (mem_setOf.mp hx))
        exact ⟨asg_nm HC rfl, sub_cons rfl, tr_cmp HC (ev_at (by first | exact ev_local (by assumption) rfl rfl rfl | exact ev_cell' (by assumption) rfl rfl rfl rfl) ev_int p1 p2 (by decide) (fun _ _ => rfl)) (ev_at (by first | exact ev_local (by assumption) rfl rfl rfl | exact ev_cell' (by assumption) rfl rfl rfl rfl) ev_int q1 q2 (by decide) (fun _ _ => rfl)) op_eq rfl, (by first | exact ev_local (by assumption) rfl rfl rfl | exact ev_cell' (by assumption) rfl rfl rfl rfl)⟩
    have h8 := of_decide_eq_false h8
    have fin2 : ∀ {b c : Bool} {t : Bool} {h : Heap} {v : Value}, Rel X' h (if t = true then .bool b else .bool c) v → (if t = true then b else c) = isInP word n r a P Q → Rt X' (.bool (isInP word n r a P Q)) (.ret v) h := fun {b c t h v} rb e => ⟨_, rfl, by rw [← e]; cases t <;> exact rb⟩
    exact bg_ret stj_true (ev_ite (b := decide (word = 9)) (tr_cmp H (by first | exact ev_local (by assumption) rfl rfl rfl | exact ev_cell' (by assumption) rfl rfl rfl rfl) ev_int op_eq rfl) (fun _ => ev_and (ev_cmp H (by first | exact ev_local (by assumption) rfl rfl rfl | exact ev_cell' (by assumption) rfl rfl rfl rfl) (by first | exact ev_local (by assumption) rfl rfl rfl | exact ev_cell' (by assumption) rfl rfl rfl rfl) (op_in_rows hA') rfl) fun _ => ev_cmp H (ev_cut H (by first | exact ev_local (by assumption) rfl rfl rfl | exact ev_cell' (by assumption) rfl rfl rfl rfl) evp_none (evp_some ev_int) (by omega)) (by first | exact ev_local (by assumption) rfl rfl rfl | exact ev_cell' (by assumption) rfl rfl rfl rfl) (op_in_rows hA') rfl)
      fun _ => ev_and (ev_cmp H (by first | exact ev_local (by assumption) rfl rfl rfl | exact ev_cell' (by assumption) rfl rfl rfl rfl) (by first | exact ev_local (by assumption) rfl rfl rfl | exact ev_cell' (by assumption) rfl rfl rfl rfl) (op_in_rows hA') rfl) fun _ => ev_cmp H (ev_cut H (by first | exact ev_local (by assumption) rfl rfl rfl | exact ev_cell' (by assumption) rfl rfl rfl rfl) (evp_some (ev_neg ev_int rfl)) evp_none (by omega)) (by first | exact ev_local (by assumption) rfl rfl rfl | exact ev_cell' (by assumption) rfl rfl rfl rfl) (op_in_rows hA') rfl) fun h v S _ rb => fin2 rb (by unfold isInP; rw [if_neg h0, if_neg h1, if_neg h2', if_neg h3, if_neg h4, if_neg h5, if_neg h6, if_neg h8]; simp only [decide_eq_true_eq])
end
end Mine
end

section
open PySem PySem.W PyProof.Rows
set_option Elab.async false
set_option maxRecDepth 100000
set_option linter.unusedVariables false
namespace Mine

/-- the arities that a word takes -/
noncomputable def Fit (w a b : Nat) : Prop :=
  (w = 3 ∧ 3 ≤ a + b ∧ a + b ≤ 5) ∨ (w = 4 ∧ a + b ≤ 3) ∨ ((w = 5 ∨ w = 6 ∨ w = 7) ∧ a = 2) ∨ (w = 9 ∧ a = 1) ∨ (w = 10 ∧ b = 1) ∨ ((w = 0 ∨ w = 1 ∨ w = 2 ∨ w = 8) ∧ a = b)

noncomputable def doneP (w n : Nat) (S T : List (List Int)) : List (List Int) :=
  if w = 5 then turnedP S else if w = 6 then closureP S else if w = 7 then starP n S
  else if w = 0 then unionP S T else if w = 1 then meetP S T else if w = 2 then minusP S T else if w = 3 then joinP S T else if w = 4 then productP S T
  else if w = 8 then overrideP S T else if w = 9 then aheadP S T else behindP S T

noncomputable def tabOf : Option Stmt → List Expr
  | some (.Return (some (.Call (.Subscript (.List es _) _ _) _ _ _)) _) => es
  | _ => []

section
variable {prog : Program} {w : World} {g : Heap} {mg mb : Str → Option Value} {A : Around} {env : Env} {X X' Y Z : Addr → Prop} {σ σ' : List (Str × AV)} {E : Value → Shared → Prop} {J : Heap → Prop} {R : Flow → Heap → Prop}

theorem c_done (G : Gnd g mg mb) (hA : Room 13 A) {fa : Addr} (ha : mg Flaw_done.name = some (.ref fa)) {n a b k : Nat} (hn : n ≤ 3) (ha1 : 1 ≤ a ∧ a ≤ 3) (hb1 : 1 ≤ b ∧ b ≤ 3) (hk : k ≤ 10) (hfit : Fit k a b) {S T : List (List Int)} (hS : OkS n a S) (hT : OkS n b T) (sS : Sorted S) (sT : Sorted T) :
    Cl prog w g A X (.ref fa) [.int k, .int n, rowsT S, rowsT T] (rowsT (doneP k n S T)) := by
  have z1 := ok_27 hn ha1.2 hS (sorted_nodup sS)
  have z2 := ok_27 hn hb1.2 hT (sorted_nodup sT)
  refine cl_def G (d := Flaw_done) (by simp [recs]) ha (k := 12) (names := ["word", "n", "s", "t"]) hA rfl (fun _ _ _ vs h => ?_) rfl (by decide) rfl rfl rfl fun L cd X' H hA' => ?_
  · match vs, h with
    | [v, u, x, y], _ => rfl
  · obtain ⟨au, hau, hCu⟩ := fn_of G (d := Funion) (by simp [recs])
    obtain ⟨am, ham, hCm⟩ := fn_of G (d := Fmeet) (by simp [recs])
    obtain ⟨ai, hai, hCi⟩ := fn_of G (d := Fminus) (by simp [recs])
    obtain ⟨aj, haj, hCj⟩ := fn_of G (d := Fjoin) (by simp [recs])
    obtain ⟨ap, hap, hCp⟩ := fn_of G (d := Fproduct) (by simp [recs])
    obtain ⟨ao, hao, hCo⟩ := fn_of G (d := Foverride) (by simp [recs])
    obtain ⟨ah, hah, hCh⟩ := fn_of G (d := Fahead) (by simp [recs])
    obtain ⟨ab, hab, hCb⟩ := fn_of G (d := Fbehind) (by simp [recs])
    obtain ⟨at', hat, hCt⟩ := fn_of G (d := Fturned) (by simp [recs])
    obtain ⟨ac, hac, hCc⟩ := fn_of G (d := Fclosure) (by simp [recs])
    obtain ⟨as, has, hCs⟩ := fn_of G (d := Fstar) (by simp [recs])
    have fin : ∀ {U : List (List Int)} {h : Heap} {v : Value}, Rel X' h (rowsT U) v → U = doneP k n S T → Rt X' (rowsT (doneP k n S T)) (.ret v) h := fun r e => ⟨_, rfl, e ▸ r⟩
    refine bg_if rt_next stj_true (b := decide ((k : Int) = 5)) (tr_cmp H (by first | exact ev_local (by assumption) rfl rfl rfl | exact ev_cell' (by assumption) rfl rfl rfl rfl) ev_int op_eq rfl) (fun h5 => ?_) fun h5 => ?_
    · have e : k = 5 := by have := of_decide_eq_true h5; omega
      subst e
      have ea : a = 2 := by rcases hfit with h | h | h | h | h | h <;> omega
      subst ea
      have okr : OkS n 2 (S.map List.reverse) := fun r hr => by
        obtain ⟨x, hx, rfl⟩ := List.mem_map.mp hr
        exact ⟨by rw [List.length_reverse]; exact (hS x hx).1, fun y hy => (hS x hx).2 y (List.mem_reverse.mp hy)⟩
      exact bg_ret stj_true (ev_call H (ev_glob G H hat rfl rfl) hCt (evl_cons (by first | exact ev_local (by assumption) rfl rfl rfl | exact ev_cell' (by assumption) rfl rfl rfl rfl) rfl evl_nil) (c_turned G (hA'.le (by decide)) hat (by omega) (fun r hr => (hS r hr).1) (firsts_64 hn (by decide) okr)) rfl) fun h v _ _ r => fin r (by unfold doneP; rw [if_pos rfl])
    have h5 : k ≠ 5 := fun e => by have := of_decide_eq_false h5; omega
    refine bg_if rt_next stj_true (b := decide ((k : Int) = 6)) (tr_cmp H (by first | exact ev_local (by assumption) rfl rfl rfl | exact ev_cell' (by assumption) rfl rfl rfl rfl) ev_int op_eq rfl) (fun h6 => ?_) fun h6 => ?_
    · have e : k = 6 := by have := of_decide_eq_true h6; omega
      subst e
      have ea : a = 2 := by rcases hfit with h | h | h | h | h | h <;> omega
      subst ea
      exact bg_ret stj_true (ev_call H (ev_glob G H hac rfl rfl) hCc (evl_cons (by first | exact ev_local (by assumption) rfl rfl rfl | exact ev_cell' (by assumption) rfl rfl rfl rfl) rfl evl_nil) (c_closure G (hA'.le (by decide)) hac hn hS sS) rfl) fun h v _ _ r => fin r (by unfold doneP; rw [if_neg (by decide), if_pos rfl])
    have h6 : k ≠ 6 := fun e => by have := of_decide_eq_false h6; omega
    refine bg_if rt_next stj_true (b := decide ((k : Int) = 7)) (tr_cmp H (by first | exact ev_local (by assumption) rfl rfl rfl | exact ev_cell' (by assumption) rfl rfl rfl rfl) ev_int op_eq rfl) (fun h7 => ?_) fun h7 => ?_
    · have e : k = 7 := by have := of_decide_eq_true h7; omega
      subst e
      have ea : a = 2 := by rcases hfit with h | h | h | h | h | h <;> omega
      subst ea
      exact bg_ret stj_true (ev_call H (ev_glob G H has rfl rfl) hCs (evl_cons (by first | exact ev_local (by assumption) rfl rfl rfl | exact ev_cell' (by assumption) rfl rfl rfl rfl) rfl (evl_cons (by first | exact ev_local (by assumption) rfl rfl rfl | exact ev_cell' (by assumption) rfl rfl rfl rfl) rfl evl_nil)) (c_star G (hA'.le (by decide)) has hn hS sS) rfl) fun h v _ _ r => fin r (by unfold doneP; rw [if_neg (by decide), if_neg (by decide), if_pos rfl])
    have h7 : k ≠ 7 := fun e => by have := of_decide_eq_false h7; omega
    have tab : EvL prog w g (A.deeper (envOfC Flaw_done.name Flaw_done.scope L fa cd)) (envOfC Flaw_done.name Flaw_done.scope L fa cd) X' [("word", .int k), ("n", .int n), ("s", rowsT S), ("t", rowsT T)]
        (tabOf Flaw_done.body[3]?)
        [.val (.ref au), .val (.ref am), .val (.ref ai), .val (.ref aj), .val (.ref ap), .none, .none, .none, .val (.ref ao), .val (.ref ah), .val (.ref ab)] :=
      evl_cons (ev_glob G H hau rfl rfl) rfl (evl_cons (ev_glob G H ham rfl rfl) rfl (evl_cons (ev_glob G H hai rfl rfl) rfl (evl_cons (ev_glob G H haj rfl rfl) rfl (evl_cons (ev_glob G H hap rfl rfl) rfl (evl_cons ev_none rfl (evl_cons ev_none rfl (evl_cons ev_none rfl
        (evl_cons (ev_glob G H hao rfl rfl) rfl (evl_cons (ev_glob G H hah rfl rfl) rfl (evl_cons (ev_glob G H hab rfl rfl) rfl evl_nil))))))))))
    have okF : ∀ (p : List Int → Bool), OkS n a (S.filter p) := fun p r hr => hS r (List.mem_filter.mp hr).1
    have hall : k = 0 ∨ k = 1 ∨ k = 2 ∨ k = 3 ∨ k = 4 ∨ k = 8 ∨ k = 9 ∨ k = 10 := by omega
    rcases hall with e | e | e | e | e | e | e | e <;> subst e
    · have ea : a = b := by rcases hfit with h | h | h | h | h | h <;> omega
      subst ea
      exact bg_ret stj_true (ev_call H (ev_itemL (k := 0) (ev_list H tab (by simp)) (by first | exact ev_local (by assumption) rfl rfl rfl | exact ev_cell' (by assumption) rfl rfl rfl rfl) rfl (by decide) (fun _ _ => rfl)) hCu (evl_cons (by first | exact ev_local (by assumption) rfl rfl rfl | exact ev_cell' (by assumption) rfl rfl rfl rfl) rfl (evl_cons (by first | exact ev_local (by assumption) rfl rfl rfl | exact ev_cell' (by assumption) rfl rfl rfl rfl) rfl evl_nil)) (c_union G (hA'.le (by decide)) hau (by omega) (firsts_64 hn ha1.2 (hS.app hT)) (ok_ne ha1.1 (hS.app hT))) rfl) fun h v _ _ r => fin r rfl
    · exact bg_ret stj_true (ev_call H (ev_itemL (k := 1) (ev_list H tab (by simp)) (by first | exact ev_local (by assumption) rfl rfl rfl | exact ev_cell' (by assumption) rfl rfl rfl rfl) rfl (by decide) (fun _ _ => rfl)) hCm (evl_cons (by first | exact ev_local (by assumption) rfl rfl rfl | exact ev_cell' (by assumption) rfl rfl rfl rfl) rfl (evl_cons (by first | exact ev_local (by assumption) rfl rfl rfl | exact ev_cell' (by assumption) rfl rfl rfl rfl) rfl evl_nil)) (c_meet G (hA'.le (by decide)) ham (by omega) (by omega)) rfl) fun h v _ _ r => fin r rfl
    · exact bg_ret stj_true (ev_call H (ev_itemL (k := 2) (ev_list H tab (by simp)) (by first | exact ev_local (by assumption) rfl rfl rfl | exact ev_cell' (by assumption) rfl rfl rfl rfl) rfl (by decide) (fun _ _ => rfl)) hCi (evl_cons (by first | exact ev_local (by assumption) rfl rfl rfl | exact ev_cell' (by assumption) rfl rfl rfl rfl) rfl (evl_cons (by first | exact ev_local (by assumption) rfl rfl rfl | exact ev_cell' (by assumption) rfl rfl rfl rfl) rfl evl_nil)) (c_minus G (hA'.le (by decide)) hai (by omega) (by omega)) rfl) fun h v _ _ r => fin r rfl
    · have okj := ok_join ha1.1 hb1.1 hS hT
      have hab' : a + b - 2 ≤ 3 ∧ 1 ≤ a + b - 2 := by rcases hfit with h | h | h | h | h | h <;> omega
      have hne : ∀ r ∈ S ++ T, r ≠ [] := fun r hr => (List.mem_append.mp hr).elim (ok_ne ha1.1 hS r) (ok_ne hb1.1 hT r)
      have hww : ∀ r ∈ S ++ T, r.length ≤ 1000 := fun r hr => (List.mem_append.mp hr).elim (ok_w ha1.2 hS r) (ok_w hb1.2 hT r)
      have h1 := joinRaw_len (s := S) (t := T)
      have h2 : S.length * T.length ≤ 27 * 27 := Nat.mul_le_mul z1 z2
      exact bg_ret stj_true (ev_call H (ev_itemL (k := 3) (ev_list H tab (by simp)) (by first | exact ev_local (by assumption) rfl rfl rfl | exact ev_cell' (by assumption) rfl rfl rfl rfl) rfl (by decide) (fun _ _ => rfl)) hCj (evl_cons (by first | exact ev_local (by assumption) rfl rfl rfl | exact ev_cell' (by assumption) rfl rfl rfl rfl) rfl (evl_cons (by first | exact ev_local (by assumption) rfl rfl rfl | exact ev_cell' (by assumption) rfl rfl rfl rfl) rfl evl_nil)) (c_join G (hA'.le (by decide)) haj (by omega) (by omega) hne hww (by omega) (firsts_64 hn hab'.1 okj) (ok_ne hab'.2 okj)) rfl) fun h v _ _ r => fin r rfl
    · have hww : ∀ r ∈ S ++ T, r.length ≤ 1000 := fun r hr => (List.mem_append.mp hr).elim (ok_w ha1.2 hS r) (ok_w hb1.2 hT r)
      have h2 : S.length * T.length ≤ 27 * 27 := Nat.mul_le_mul z1 z2
      exact bg_ret stj_true (ev_call H (ev_itemL (k := 4) (ev_list H tab (by simp)) (by first | exact ev_local (by assumption) rfl rfl rfl | exact ev_cell' (by assumption) rfl rfl rfl rfl) rfl (by decide) (fun _ _ => rfl)) hCp (evl_cons (by first | exact ev_local (by assumption) rfl rfl rfl | exact ev_cell' (by assumption) rfl rfl rfl rfl) rfl (evl_cons (by first | exact ev_local (by assumption) rfl rfl rfl | exact ev_cell' (by assumption) rfl rfl rfl rfl) rfl evl_nil)) (c_product G (hA'.le (by decide)) hap (by omega) hww) rfl) fun h v _ _ r => fin r rfl
    · have ea : a = b := by rcases hfit with h | h | h | h | h | h <;> omega
      subst ea
      exact bg_ret stj_true (ev_call H (ev_itemL (k := 8) (ev_list H tab (by simp)) (by first | exact ev_local (by assumption) rfl rfl rfl | exact ev_cell' (by assumption) rfl rfl rfl rfl) rfl (by decide) (fun _ _ => rfl)) hCo (evl_cons (by first | exact ev_local (by assumption) rfl rfl rfl | exact ev_cell' (by assumption) rfl rfl rfl rfl) rfl (evl_cons (by first | exact ev_local (by assumption) rfl rfl rfl | exact ev_cell' (by assumption) rfl rfl rfl rfl) rfl evl_nil)) (c_override G (hA'.le (by decide)) hao (by omega) (ok_ne ha1.1 (hT.app hS)) (ok_w ha1.2 (hT.app hS)) (firsts_64 hn ha1.2 (hT.app (okF _)))) rfl) fun h v _ _ r => fin r rfl
    · exact bg_ret stj_true (ev_call H (ev_itemL (k := 9) (ev_list H tab (by simp)) (by first | exact ev_local (by assumption) rfl rfl rfl | exact ev_cell' (by assumption) rfl rfl rfl rfl) rfl (by decide) (fun _ _ => rfl)) hCh (evl_cons (by first | exact ev_local (by assumption) rfl rfl rfl | exact ev_cell' (by assumption) rfl rfl rfl rfl) rfl (evl_cons (by first | exact ev_local (by assumption) rfl rfl rfl | exact ev_cell' (by assumption) rfl rfl rfl rfl) rfl evl_nil)) (c_ahead G (hA'.le (by decide)) hah (by omega) (by omega) (ok_w hb1.2 hT)) rfl) fun h v _ _ r => fin r rfl
    · exact bg_ret stj_true (ev_call H (ev_itemL (k := 10) (ev_list H tab (by simp)) (by first | exact ev_local (by assumption) rfl rfl rfl | exact ev_cell' (by assumption) rfl rfl rfl rfl) rfl (by decide) (fun _ _ => rfl)) hCb (evl_cons (by first | exact ev_local (by assumption) rfl rfl rfl | exact ev_cell' (by assumption) rfl rfl rfl rfl) rfl (evl_cons (by first | exact ev_local (by assumption) rfl rfl rfl | exact ev_cell' (by assumption) rfl rfl rfl rfl) rfl evl_nil)) (c_behind G (hA'.le (by decide)) hab (by omega) (by omega) (ok_w ha1.2 hS)) rfl) fun h v _ _ r => fin r rfl

theorem c_whole (G : Gnd g mg mb) (hA : Room 13 A) {fa : Addr} (ha : mg Flaw_is_whole.name = some (.ref fa)) {n a b : Nat} (hn : n ≤ 3) (ha1 : 1 ≤ a ∧ a ≤ 3) (hb1 : 1 ≤ b ∧ b ≤ 3) {S O : List (List Int)} (hS : OkS n a S) (sS : Sorted S) (hO : OkS n b O) (sO : Sorted O) :
    Cl prog w g A X (.ref fa) [rowsT S, rowsL S, .int a, rowsT O] (.bool true) := by
  have z1 := ok_27 hn ha1.2 hS (sorted_nodup sS)
  have z2 := ok_27 hn hb1.2 hO (sorted_nodup sO)
  refine cl_def G (d := Flaw_is_whole) (by simp [recs]) ha (k := 12) (names := ["found", "due", "arity", "other"]) hA rfl (fun _ _ _ vs h => ?_) rfl (by decide) rfl rfl rfl fun L cd X' H hA' => ?_
  · match vs, h with
    | [v, u, x, y], _ => rfl
  · obtain ⟨as, has, hCs⟩ := fn_of G (d := Fset_of) (by simp [recs])
    obtain ⟨aa, haa, hCa⟩ := fn_of G (d := Farity_of) (by simp [recs])
    obtain ⟨aw, haw, hCw⟩ := fn_of G (d := Fis_within) (by simp [recs])
    have okr : OkS n a (S.reverse ++ S) := fun r hr => hS r ((List.mem_append.mp hr).elim List.mem_reverse.mp id)
    have eset : setOf (S.reverse ++ S) = S := sorted_ext (setOf_sorted _) sS fun x => by rw [mem_setOf, List.mem_append, List.mem_reverse, or_self]
    have ear : arityOf S = if (!(S.map row).isEmpty) = true then (a : Int) else 0 := by
      cases S with
      | nil => rfl
      | cons r S => show (r.length : Int) = _; rw [(hS r List.mem_cons_self).1]; rfl
    refine bg_if rt_next stj_true (b := false) (tr_eq (tr_or (b := decide (S ≠ S)) (c := !true) ?_ fun _ => tr_not ?_) (by simp)) (fun h => nomatch h) fun _ => ?_
    · exact tr_cmp H (by first | exact ev_local (by assumption) rfl rfl rfl | exact ev_cell' (by assumption) rfl rfl rfl rfl) (ev_call H (by exact ev_boot (by assumption) (by assumption) (by simp [bnames]) rfl rfl rfl) (.inr (.inl ⟨_, rfl⟩)) (evl_cons (by first | exact ev_local (by assumption) rfl rfl rfl | exact ev_cell' (by assumption) rfl rfl rfl rfl) rfl evl_nil) (cl_tuple (by rw [List.length_map]; omega)) rfl) (op_ne_rows (T := S) hA') rfl
    · exact tr_ev (ev_call H (by exact ev_boot (by assumption) (by assumption) (by simp [bnames]) rfl rfl rfl) (.inl ⟨_, rfl⟩) (evl_cons (by first | exact ev_local (by assumption) rfl rfl rfl | exact ev_cell' (by assumption) rfl rfl rfl rfl) rfl (evl_cons (by exact ev_boot (by assumption) (by assumption) (by simp [bnames]) rfl rfl rfl) rfl evl_nil)) cl_isinst rfl) rfl
    refine bg_if rt_next stj_true (b := false) (tr_eq (tr_or (b := decide (setOf (S.reverse ++ S) ≠ S)) (c := decide (arityOf S ≠ if (!(S.map row).isEmpty) = true then (a : Int) else 0)) ?_ fun _ => ?_) (by rw [eset, ← ear]; simp)) (fun h => nomatch h) fun _ => ?_
    · refine tr_cmp H (ev_call H (ev_glob G H has rfl rfl) hCs (evl_cons (r := rowsL (S.reverse ++ S)) (ev_bin H (a := rowsL S.reverse) (ev_eq (ev_rev H (l := S.map row) (ev_call H (by exact ev_boot (by assumption) (by assumption) (by simp [bnames]) rfl rfl rfl) (.inr (.inl ⟨_, rfl⟩)) (evl_cons (by first | exact ev_local (by assumption) rfl rfl rfl | exact ev_cell' (by assumption) rfl rfl rfl rfl) rfl evl_nil) (cl_list (by rw [List.length_map]; omega)) rfl) (ev_neg ev_int rfl) (by rw [List.length_map]; omega)) (by rw [← List.map_reverse])) (by first | exact ev_local (by assumption) rfl rfl rfl | exact ev_cell' (by assumption) rfl rfl rfl rfl) (op_catSL (by rw [List.length_reverse]; omega))) rfl evl_nil)
        (c_set_of G (hA'.le (by decide)) has (.list _) (by rw [List.length_append, List.length_reverse]; omega) (firsts_64 hn ha1.2 okr) (ok_ne ha1.1 okr)) rfl) (by first | exact ev_local (by assumption) rfl rfl rfl | exact ev_cell' (by assumption) rfl rfl rfl rfl) (op_ne_rows hA') rfl
    · have hne : ∀ {x y : Int}, Op2 prog w g (A.deeper (envOfC Flaw_is_whole.name Flaw_is_whole.scope L fa cd)) X' (compareOp .NotEq) (.int x) (.int y) (.bool (decide (x ≠ y))) := fun {x y} s u v _ _ ru rv => by
        simp only [Rel] at ru rv; obtain ⟨t, rfl⟩ := ru; obtain ⟨t', rfl⟩ := rv
        exact PyProof.Rows.ne_int ⟨keeps_refl s, by simp only [Rel]; congr 1; by_cases e : x = y <;> simp [e]⟩
      refine tr_cmp H (ev_call H (ev_glob G H haa rfl rfl) hCa (evl_cons (by first | exact ev_local (by assumption) rfl rfl rfl | exact ev_cell' (by assumption) rfl rfl rfl rfl) rfl evl_nil) (c_arity_of G (hA'.le (by decide)) haa (by omega) (ok_w ha1.2 hS)) rfl) (ev_eq (ev_ite (b := !(S.map row).isEmpty) (r := .int a) (r' := .int 0) (tr_cmp H (by first | exact ev_local (by assumption) rfl rfl rfl | exact ev_cell' (by assumption) rfl rfl rfl rfl) (ev_list H evl_nil (by simp)) (op_ne_nil hA') rfl) (fun _ => (by first | exact ev_local (by assumption) rfl rfl rfl | exact ev_cell' (by assumption) rfl rfl rfl rfl)) fun _ => ev_int) (by cases (!(S.map row).isEmpty) <;> rfl)) hne rfl
    · have emin : S.filter (fun r => !decide (r ∈ O)) = minusP S O := rfl
      refine bg_ret stj_true (r := .bool (decide (decide (minusP S O = []) = ((minusP S O).map row).isEmpty))) (ev_cmp H (ev_call H (ev_glob G H haw rfl rfl) hCw (evl_cons (by first | exact ev_local (by assumption) rfl rfl rfl | exact ev_cell' (by assumption) rfl rfl rfl rfl) rfl (evl_cons (by first | exact ev_local (by assumption) rfl rfl rfl | exact ev_cell' (by assumption) rfl rfl rfl rfl) rfl evl_nil)) (c_is_within G (hA'.le (by decide)) haw (by omega) (by omega)) rfl) (ev_cmp H (ev_cp H hA'.hh (cp_filter (xs := S) (enc := row) (f := row) (pz := fun r => !decide (r ∈ O)) (bd := fun r => [("row", row r), ("other", rowsT O)]) (src := rowsL S) (fun _ => rfl) rfl rfl (by decide) (by first | exact ev_local (by assumption) rfl rfl rfl | exact ev_cell' (by assumption) rfl rfl rfl rfl) (.list _) (by omega) fun C Y HC r hr => ?_)) (ev_list H evl_nil (by simp)) (op_eq_nil hA') rfl) op_eqb rfl) fun h v _ _ r => ⟨v, rfl, ?_⟩
      · exact ⟨asg_nm HC rfl, sub_cons rfl, tr_cmp HC (by first | exact ev_local (by assumption) rfl rfl rfl | exact ev_cell' (by assumption) rfl rfl rfl rfl) (by first | exact ev_local (by assumption) rfl rfl rfl | exact ev_cell' (by assumption) rfl rfl rfl rfl) (op_notin_rowsT hA') rfl, (by first | exact ev_local (by assumption) rfl rfl rfl | exact ev_cell' (by assumption) rfl rfl rfl rfl)⟩
      · have e : decide (decide (minusP S O = []) = ((minusP S O).map row).isEmpty) = true := by
          cases minusP S O <;> simp
        rw [e] at r; exact r
end
end Mine
end

section
open PySem PySem.W PyProof.Rows
set_option Elab.async false
set_option maxRecDepth 100000
set_option linter.unusedVariables false
namespace Mine

theorem firsts_eq {α : Type} [DecidableEq α] {l : List α} (h : l.Nodup) : firsts l = l := by
  have go : ∀ (l acc : List α), (acc ++ l).Nodup → l.foldl (fun acc x => if x ∈ acc then acc else acc ++ [x]) acc = acc ++ l := by
    intro l
    induction l with
    | nil => intro acc _; simp
    | cons y l ih =>
      intro acc hn
      rw [List.foldl_cons]
      have hy : y ∉ acc := fun hm => by
        have := (List.nodup_append.mp hn).2.2 y hm y List.mem_cons_self
        exact this rfl
      rw [if_neg hy, ih (acc ++ [y]) (by simpa using hn)]
      simp
  simpa [firsts] using go l [] (by simpa using h)

/- reach -/
inductive Tc (s : List (List Int)) : Int → Int → Prop
  | base {x y} : [x, y] ∈ s → Tc s x y
  | step {x y z} : Tc s x y → [y, z] ∈ s → Tc s x z

theorem two_of {n : Nat} {r : List Int} (h : Ok n 2 r) : ∃ x y, r = [x, y] := by
  match r, h.1 with
  | [x, y], _ => exact ⟨x, y, rfl⟩
theorem mem_join2 {n : Nat} {s t : List (List Int)} (hs : OkS n 2 s) (ht : OkS n 2 t) {x z : Int} : [x, z] ∈ joinRaw s t ↔ ∃ y, [x, y] ∈ s ∧ [y, z] ∈ t := by
  rw [mem_joinRaw]
  constructor
  · rintro ⟨p, hp, q, hq, e1, e2⟩
    obtain ⟨a, b, rfl⟩ := two_of (hs p hp)
    obtain ⟨c, d, rfl⟩ := two_of (ht q hq)
    have e1 : c = b := e1
    have e2 : [x, z] = [a, d] := e2
    simp at e2
    obtain ⟨rfl, rfl⟩ := e2
    subst e1
    exact ⟨c, hp, hq⟩
  · rintro ⟨y, h1, h2⟩
    exact ⟨_, h1, _, h2, rfl, rfl⟩

theorem closF_sound {n : Nat} {s : List (List Int)} (hs : OkS n 2 s) : ∀ f found late, OkS n 2 late → (∀ x y, [x, y] ∈ found → Tc s x y) → (∀ x y, [x, y] ∈ late → Tc s x y) → ∀ x y, [x, y] ∈ closF s f found late → Tc s x y
  | 0, found, late, _, h, _ => h
  | f + 1, found, late, ho, h, h' => by
    rw [closF]
    split
    · refine closF_sound hs f late _ (ok_step hs ho) h' fun x y hm => ?_
      rcases mem_stepP.mp hm with q | q
      · exact h' x y q
      · obtain ⟨z, h1, h2⟩ := (mem_join2 ho hs).mp q
        exact .step (h' x z h1) h2
    · exact h
theorem closF_closed {n : Nat} (hn : n ≤ 3) {s : List (List Int)} (hs : OkS n 2 s) : ∀ f found late, Sorted found → Sorted late → (∀ x ∈ found, x ∈ late) → OkS n 2 late → 10 ≤ f + found.length → (∀ r ∈ s, r ∈ late) → (∀ r ∈ joinRaw found s, r ∈ late) →
    (∀ r ∈ s, r ∈ closF s f found late) ∧ ∀ r ∈ joinRaw (closF s f found late) s, r ∈ closF s f found late
  | 0, found, late, sf, sl, hsub, ho, hr, _, _ => by
    have h1 := (sorted_nodup sf).length_le_of_subset hsub
    have h2 := ok_len ho (sorted_nodup sl)
    have h3 : n ^ 2 ≤ 9 := Nat.le_trans (Nat.pow_le_pow_left hn 2) (by decide)
    omega
  | f + 1, found, late, sf, sl, hsub, ho, hr, hb, hc => by
    rw [closF]
    split
    · rename_i hne
      have hlt := lt_of_ssub sf sl hsub hne
      exact closF_closed hn hs f late _ sl sorted_step (fun x hx => mem_stepP.mpr (.inl hx)) (ok_step hs ho) (by omega) (fun r hr => mem_stepP.mpr (.inl (hb r hr))) fun r hr => mem_stepP.mpr (.inr hr)
    · rename_i hne
      have e : late = found := by simpa using hne
      subst e
      exact ⟨hb, hc⟩
theorem mem_closure {n : Nat} (hn : n ≤ 3) {s : List (List Int)} (hs : OkS n 2 s) (ss : Sorted s) {x y : Int} : [x, y] ∈ closureP s ↔ Tc s x y := by
  constructor
  · exact closF_sound hs 11 [] s hs (fun _ _ h => nomatch h) (fun _ _ h => .base h) x y
  · intro h
    obtain ⟨h1, h2⟩ := closF_closed hn hs 11 [] s List.Pairwise.nil ss (fun _ h => nomatch h) hs (by simp) (fun _ h => h) (fun _ h => nomatch h)
    have okc := closure_ok hs
    induction h with
    | base h => exact h1 _ h
    | step _ h ih => exact h2 _ ((mem_join2 okc hs).mpr ⟨_, ih, h⟩)

theorem mem_innerP {S : List (List Int)} {x : Int} {l : List Int} {a : Int} : ∀ {k : Nat}, a ∈ innerP S x l k ↔ a ∈ l ∨ ((0 ≤ a ∧ a < k) ∧ [x, a] ∈ S)
  | 0 => by
    show a ∈ l ↔ _
    constructor
    · exact .inl
    · rintro (h | ⟨h, _⟩)
      · exact h
      · omega
  | k + 1 => by
    rw [innerP_succ]
    have ih := @mem_innerP S x l a k
    split
    · rename_i hc
      simp only [Bool.and_eq_true, decide_eq_true_eq] at hc
      rw [List.mem_append, List.mem_singleton, ih]
      constructor
      · rintro ((h | ⟨h, h'⟩) | rfl)
        · exact .inl h
        · exact .inr ⟨⟨h.1, by omega⟩, h'⟩
        · exact .inr ⟨⟨by omega, by omega⟩, hc.1⟩
      · rintro (h | ⟨h, h'⟩)
        · exact .inl (.inl h)
        · by_cases e : a = k
          · exact .inr e
          · exact .inl (.inr ⟨⟨h.1, by omega⟩, h'⟩)
    · rename_i hc
      simp only [Bool.and_eq_true, decide_eq_true_eq, not_and, Classical.not_not] at hc
      rw [ih]
      constructor
      · rintro (h | ⟨h, h'⟩)
        · exact .inl h
        · exact .inr ⟨⟨h.1, by omega⟩, h'⟩
      · rintro (h | ⟨h, h'⟩)
        · exact .inl h
        · by_cases e : a = k
          · subst e
            exact ih.mp (hc h')
          · exact .inr ⟨⟨h.1, by omega⟩, h'⟩
theorem mem_firstP {S : List (List Int)} {b a : Int} {k : Nat} : a ∈ firstP S b k ↔ (0 ≤ a ∧ a < k) ∧ [b, a] ∈ S := by
  unfold firstP
  rw [List.mem_map]
  constructor
  · rintro ⟨i, hi, rfl⟩
    obtain ⟨h1, h2⟩ := List.mem_filter.mp hi
    rw [List.mem_range] at h1
    exact ⟨⟨by omega, by omega⟩, of_decide_eq_true h2⟩
  · rintro ⟨⟨h1, h2⟩, h3⟩
    refine ⟨a.toNat, List.mem_filter.mpr ⟨List.mem_range.mpr (by omega), ?_⟩, by omega⟩
    have : ((a.toNat : Nat) : Int) = a := by omega
    rw [this]; exact decide_eq_true h3

theorem reachF_sound {n : Nat} {S : List (List Int)} {b : Int} : ∀ f spot l, (∀ y ∈ l, Tc S b y) → ∀ y ∈ reachF S n f spot l, Tc S b y
  | 0, _, l, h => h
  | f + 1, spot, l, h => by
    rw [reachF]
    split
    · rename_i hlt
      refine reachF_sound f (spot + 1) _ fun y hy => ?_
      rcases mem_innerP.mp hy with q | ⟨_, q⟩
      · exact h y q
      · refine .step (h _ ?_) q
        have : l[spot]? = some (l.getD spot 0) := by simp [hlt]
        exact List.mem_of_getElem? this
    · exact h
theorem reachF_closed {n : Nat} {S : List (List Int)} (hS : OkS n 2 S) {b : Int} : ∀ f spot l, GoodL n l → n + 1 ≤ spot + f → (∀ a, [b, a] ∈ S → a ∈ l) → (∀ i y, i < spot → l[i]? = some y → ∀ a, [y, a] ∈ S → a ∈ l) →
    (∀ a, [b, a] ∈ S → a ∈ reachF S n f spot l) ∧ ∀ y ∈ reachF S n f spot l, ∀ a, [y, a] ∈ S → a ∈ reachF S n f spot l
  | 0, spot, l, hg, hf, h1, h2 => by
    refine ⟨h1, fun y hy a ha => ?_⟩
    have hy : y ∈ l := hy
    obtain ⟨i, hi⟩ := List.mem_iff_getElem?.mp hy
    have := (List.getElem?_eq_some_iff.mp hi).1
    have := hg.len
    exact h2 i y (by omega) hi a ha
  | f + 1, spot, l, hg, hf, h1, h2 => by
    rw [reachF]
    split
    · rename_i hlt
      obtain ⟨_, hl⟩ := innerP_len (some := S) (x := l.getD spot 0) (l := l) n
      refine reachF_closed hS f (spot + 1) _ (innerP_good hg n (Nat.le_refl n)) (by omega) (fun a ha => mem_innerP.mpr (.inl (h1 a ha))) fun i y hi hy a ha => ?_
      have hil : i < l.length := by omega
      rw [hl i hil] at hy
      by_cases e : i = spot
      · subst e
        have ey : l.getD i 0 = y := by rw [List.getD_eq_getElem?_getD, hy]; rfl
        have hb := (hS _ ha).2 a (by simp)
        exact mem_innerP.mpr (.inr ⟨hb, by rw [ey]; exact ha⟩)
      · exact mem_innerP.mpr (.inl (h2 i y (by omega) hy a ha))
    · rename_i hge
      refine ⟨h1, fun y hy a ha => ?_⟩
      obtain ⟨i, hi⟩ := List.mem_iff_getElem?.mp hy
      have := (List.getElem?_eq_some_iff.mp hi).1
      exact h2 i y (by omega) hi a ha
theorem mem_reached {n : Nat} {S : List (List Int)} (hS : OkS n 2 S) {b y : Int} : y ∈ reachedP n S b ↔ Tc S b y := by
  constructor
  · exact reachF_sound (n + 1) 0 _ (fun y hy => .base (mem_firstP.mp hy).2) y
  · intro h
    obtain ⟨h1, h2⟩ := reachF_closed hS (b := b) (n + 1) 0 (firstP S b n) (firstP_good n (Nat.le_refl n)).1 (by omega) (fun a ha => mem_firstP.mpr ⟨(hS _ ha).2 a (by simp), ha⟩) (fun i y hi => by omega)
    induction h with
    | base h => exact h1 _ h
    | step _ h ih => exact h2 _ ih _ h
end Mine
end

section
open PySem PySem.W PyProof.Rows
set_option Elab.async false
set_option maxRecDepth 100000
set_option linter.unusedVariables false
namespace Mine

theorem rowLt_app : ∀ (a b x y : List Int), a.length = b.length → rowLt a b = true → rowLt (a ++ x) (b ++ y) = true
  | [], [], _, _, _, h => by simp [rowLt] at h
  | [], _ :: _, _, _, h, _ => by simp at h
  | _ :: _, [], _, _, h, _ => by simp at h
  | a :: as, b :: bs, x, y, hl, h => by
    simp only [rowLt, List.cons_append] at h ⊢
    by_cases e : a = b
    · rw [if_pos e] at h ⊢; exact rowLt_app as bs x y (by simpa using hl) h
    · rw [if_neg e] at h ⊢; exact h
theorem rowLt_same : ∀ (a x y : List Int), rowLt (a ++ x) (a ++ y) = rowLt x y
  | [], _, _ => rfl
  | a :: as, x, y => by simp only [rowLt, List.cons_append, if_pos]; exact rowLt_same as x y
theorem sorted_flat {l : List (List Int)} {f : List Int → List (List Int)} {k : Nat} (hl : Sorted l) (hk : ∀ x ∈ l, x.length = k) (hf : ∀ x ∈ l, ∃ m, f x = m.map (x ++ ·) ∧ Sorted m) : Sorted (l.flatMap f) := by
  unfold Sorted
  rw [List.pairwise_flatMap]
  refine ⟨fun x hx => ?_, List.Pairwise.imp_of_mem (fun {a b} ha hb hab x hx y hy => ?_) hl⟩
  · obtain ⟨m, e, hm⟩ := hf x hx
    rw [e, List.pairwise_map]
    exact List.Pairwise.imp (fun {a b} h => by rw [rowLt_same]; exact h) hm
  · obtain ⟨m, e, _⟩ := hf a ha
    obtain ⟨m', e', _⟩ := hf b hb
    rw [e] at hx; rw [e'] at hy
    obtain ⟨p, _, rfl⟩ := List.mem_map.mp hx
    obtain ⟨q, _, rfl⟩ := List.mem_map.mp hy
    exact rowLt_app _ _ _ _ (by rw [hk a ha, hk b hb]) hab
theorem rows_sorted {n : Nat} : ∀ {a : Nat}, Sorted (rowsP n a)
  | 0 => List.pairwise_singleton _ _
  | a + 1 => by
    refine sorted_flat (k := a) rows_sorted (fun x hx => (mem_rowsP.mp hx).1) fun x hx => ⟨(List.range n).map fun (i : Nat) => [(i : Int)], by rw [List.map_map]; rfl, ?_⟩
    unfold Sorted
    rw [List.pairwise_map]
    refine List.Pairwise.imp (fun {i j} h => ?_) (List.pairwise_lt_range (n := n))
    simp only [rowLt]
    rw [if_neg (by omega)]
    exact decide_eq_true (by omega)
theorem sorted_filter {l : List (List Int)} (p : List Int → Bool) (h : Sorted l) : Sorted (l.filter p) := List.Pairwise.filter p h

noncomputable def fitN (w a b : Nat) : Nat := if w = 3 then a + b - 2 else if w = 4 then a + b else if w = 9 then b else a
theorem fits_eq {w a b : Nat} (h : Fit w a b) : fitsP w a b = fitN w a b := by
  unfold fitsP fitN
  rcases h with ⟨rfl, h⟩ | ⟨rfl, h⟩ | ⟨h, rfl⟩ | ⟨rfl, rfl⟩ | ⟨rfl, rfl⟩ | ⟨h, rfl⟩
  · rw [if_pos (by rfl), if_pos (by omega), if_pos rfl]; omega
  · rw [if_neg (by decide), if_pos (by rfl), if_pos (by omega), if_neg (by decide), if_pos rfl]; omega
  · rcases h with rfl | rfl | rfl <;> rfl
  · rfl
  · rfl
  · rcases h with rfl | rfl | rfl | rfl <;> simp
theorem fit_of {w a b : Nat} (ha : 1 ≤ a) (hw : w ≤ 10) (h : 0 < fitsP w a b) : Fit w a b := by
  unfold fitsP at h
  unfold Fit
  by_cases h3 : w = 3
  · subst h3; rw [if_pos (by rfl)] at h; split at h
    · left; omega
    · omega
  rw [if_neg (by omega)] at h
  by_cases h4 : w = 4
  · subst h4; rw [if_pos (by rfl)] at h; split at h
    · right; left; omega
    · omega
  rw [if_neg (by omega)] at h
  by_cases h5 : w = 5 ∨ w = 6 ∨ w = 7
  · rw [if_pos (by omega)] at h; split at h
    · right; right; left; exact ⟨h5, by omega⟩
    · omega
  rw [if_neg (by omega)] at h
  by_cases h9 : w = 9
  · subst h9; rw [if_pos (by rfl)] at h; split at h
    · right; right; right; left; omega
    · omega
  rw [if_neg (by omega)] at h
  by_cases h10 : w = 10
  · subst h10; rw [if_pos (by rfl)] at h; split at h
    · right; right; right; right; left; omega
    · omega
  rw [if_neg (by omega)] at h
  split at h
  · right; right; right; right; right; exact ⟨by omega, by omega⟩
  · omega

theorem cut_takeA {r : List Int} {k : Nat} : cut none (some ((k : Nat) : Int)) r = r.take k := by
  unfold cut
  have h1 : kms_lo none r.length = 0 := rfl
  have h2 : kms_hi (some (k : Int)) r.length = min k r.length := by simp [kms_hi]; omega
  rw [h1, h2, List.drop_zero, Nat.sub_zero, List.take_eq_take_iff]; omega
theorem cut_dropA {r : List Int} {k : Nat} : cut (some ((k : Nat) : Int)) none r = r.drop k := by
  unfold cut
  have h1 : kms_lo (some (k : Int)) r.length = min k r.length := by simp [kms_lo]; omega
  have h2 : kms_hi none r.length = r.length := rfl
  rw [h1, h2]
  rw [List.take_of_length_le (by rw [List.length_drop]; omega)]
  by_cases h : k ≤ r.length
  · rw [Nat.min_eq_left h]
  · rw [Nat.min_eq_right (by omega), List.drop_of_length_le (Nat.le_refl _), List.drop_of_length_le (by omega)]

/-- the membership of what an operation gives -/
theorem mem_done {n a b w : Nat} (hn : n ≤ 3) (ha : 1 ≤ a) (hb : 1 ≤ b) (hw : w ≤ 10) (hf : Fit w a b) {S T : List (List Int)} (hS : OkS n a S) (hT : OkS n b T) (sS : Sorted S) (sT : Sorted T) (r : List Int) :
    r ∈ doneP w n S T ↔ Ok n (fitN w a b) r ∧ isInP w n r a S T = true := by
  have hall : w = 0 ∨ w = 1 ∨ w = 2 ∨ w = 3 ∨ w = 4 ∨ w = 5 ∨ w = 6 ∨ w = 7 ∨ w = 8 ∨ w = 9 ∨ w = 10 := by omega
  rcases hall with e | e | e | e | e | e | e | e | e | e | e <;> subst e
  · have e : a = b := by rcases hf with h | h | h | h | h | h <;> omega
    subst e
    show r ∈ setOf (S ++ T) ↔ Ok n a r ∧ (decide (r ∈ S) || decide (r ∈ T)) = true
    rw [mem_setOf, List.mem_append, Bool.or_eq_true, decide_eq_true_eq, decide_eq_true_eq]
    exact ⟨fun h => ⟨h.elim (hS r) (hT r), h⟩, fun h => h.2⟩
  · have e : a = b := by rcases hf with h | h | h | h | h | h <;> omega
    subst e
    show r ∈ S.filter (fun r => decide (r ∈ T)) ↔ Ok n a r ∧ (decide (r ∈ S) && decide (r ∈ T)) = true
    rw [List.mem_filter, Bool.and_eq_true, decide_eq_true_eq, decide_eq_true_eq]
    exact ⟨fun h => ⟨hS r h.1, h⟩, fun h => h.2⟩
  · have e : a = b := by rcases hf with h | h | h | h | h | h <;> omega
    subst e
    show r ∈ S.filter (fun r => !decide (r ∈ T)) ↔ Ok n a r ∧ (decide (r ∈ S) && !decide (r ∈ T)) = true
    rw [List.mem_filter, Bool.and_eq_true, decide_eq_true_eq]
    exact ⟨fun h => ⟨hS r h.1, h⟩, fun h => h.2⟩
  · -- join
    have hab : 3 ≤ a + b ∧ a + b ≤ 5 := by rcases hf with h | h | h | h | h | h <;> omega
    have ea : ((a : Int) - 1) = ((a - 1 : Nat) : Int) := by omega
    have hin : isInP (3 : Nat) n r a S T = true ↔ ∃ c : Nat, c < n ∧ r.take (a - 1) ++ [(c : Int)] ∈ S ∧ (c : Int) :: r.drop (a - 1) ∈ T := by
      show (!(((List.range n).filter fun (c : Nat) => decide (cut none (some ((a : Int) - 1)) r ++ [(c : Int)] ∈ S) && decide ([(c : Int)] ++ cut (some ((a : Int) - 1)) none r ∈ T)).map fun (c : Nat) => AV.int c).isEmpty) = true ↔ _
      rw [ea, cut_takeA, cut_dropA]
      constructor
      · intro h
        cases hl : (List.range n).filter fun (c : Nat) => decide (r.take (a - 1) ++ [(c : Int)] ∈ S) && decide ([(c : Int)] ++ r.drop (a - 1) ∈ T) with
        | nil => rw [hl] at h; simp at h
        | cons c l =>
          have hc : c ∈ (List.range n).filter fun (c : Nat) => decide (r.take (a - 1) ++ [(c : Int)] ∈ S) && decide ([(c : Int)] ++ r.drop (a - 1) ∈ T) := by rw [hl]; exact List.mem_cons_self
          rw [List.mem_filter, List.mem_range, Bool.and_eq_true, decide_eq_true_eq, decide_eq_true_eq] at hc
          exact ⟨c, hc.1, hc.2.1, hc.2.2⟩
      · rintro ⟨c, hc, h1, h2⟩
        have hm : c ∈ (List.range n).filter fun (c : Nat) => decide (r.take (a - 1) ++ [(c : Int)] ∈ S) && decide ([(c : Int)] ++ r.drop (a - 1) ∈ T) := by
          rw [List.mem_filter, List.mem_range, Bool.and_eq_true, decide_eq_true_eq, decide_eq_true_eq]; exact ⟨hc, h1, h2⟩
        cases hl : (List.range n).filter fun (c : Nat) => decide (r.take (a - 1) ++ [(c : Int)] ∈ S) && decide ([(c : Int)] ++ r.drop (a - 1) ∈ T) with
        | nil => rw [hl] at hm; cases hm
        | cons c l => rfl
    rw [hin]
    show r ∈ setOf (joinRaw S T) ↔ Ok n (a + b - 2) r ∧ _
    rw [mem_setOf]
    constructor
    · intro h
      have hok := ok_join ha hb hS hT r h
      refine ⟨hok, ?_⟩
      obtain ⟨x, hx, y, hy, he, rfl⟩ := mem_joinRaw.mp h
      have hxl := (hS x hx).1
      have hyl := (hT y hy).1
      have hxne : x ≠ [] := fun e => by rw [e] at hxl; simp at hxl; omega
      obtain ⟨y0, ys, rfl⟩ : ∃ y0 ys, y = y0 :: ys := by cases y with | nil => simp at hyl; omega | cons y0 ys => exact ⟨_, _, rfl⟩
      have hlast : x.getLastD 0 = x.getLast hxne := by rw [List.getLastD_eq_getLast?, List.getLast?_eq_some_getLast hxne]; rfl
      have he : y0 = x.getLast hxne := by rw [← hlast]; exact he
      have hb0 := (hT _ hy).2 y0 List.mem_cons_self
      have hc : ((y0.toNat : Nat) : Int) = y0 := by omega
      have hdl : x.dropLast.length = a - 1 := by rw [List.length_dropLast, hxl]
      refine ⟨y0.toNat, by omega, ?_, ?_⟩
      · rw [hc, List.take_left' hdl, he, List.dropLast_concat_getLast hxne]; exact hx
      · rw [hc, List.drop_left' hdl]; exact hy
    · rintro ⟨hok, c, hc, h1, h2⟩
      refine mem_joinRaw.mpr ⟨_, h1, _, h2, ?_, ?_⟩
      · simp
      · rw [List.dropLast_concat]; show r = r.take (a - 1) ++ r.drop (a - 1); rw [List.take_append_drop]
  · -- product
    show r ∈ productP S T ↔ Ok n (a + b) r ∧ (decide (cut none (some (a : Int)) r ∈ S) && decide (cut (some (a : Int)) none r ∈ T)) = true
    rw [cut_takeA, cut_dropA, Bool.and_eq_true, decide_eq_true_eq, decide_eq_true_eq]
    unfold productP
    rw [List.mem_flatMap]
    constructor
    · rintro ⟨x, hx, hm⟩
      obtain ⟨y, hy, rfl⟩ := List.mem_map.mp hm
      obtain ⟨x1, x2⟩ := hS x hx
      obtain ⟨y1, y2⟩ := hT y hy
      refine ⟨⟨by rw [List.length_append, x1, y1], fun z hz => (List.mem_append.mp hz).elim (x2 z) (y2 z)⟩, ?_⟩
      rw [List.take_left' x1, List.drop_left' x1]
      exact ⟨hx, hy⟩
    · rintro ⟨_, h1, h2⟩
      exact ⟨_, h1, List.mem_map.mpr ⟨_, h2, List.take_append_drop a r⟩⟩
  · -- turned
    have e : a = 2 := by rcases hf with h | h | h | h | h | h <;> omega
    subst e
    show r ∈ setOf (S.map List.reverse) ↔ Ok n 2 r ∧ decide ([r.getD 1 0, r.getD 0 0] ∈ S) = true
    rw [mem_setOf, List.mem_map, decide_eq_true_eq]
    constructor
    · rintro ⟨x, hx, rfl⟩
      have hok := hS x hx
      obtain ⟨p, q, rfl⟩ := two_of hok
      exact ⟨⟨rfl, fun y hy => hok.2 y (List.mem_reverse.mp hy)⟩, hx⟩
    · rintro ⟨hok, h⟩
      obtain ⟨p, q, rfl⟩ := two_of hok
      exact ⟨_, h, rfl⟩
  · -- closure
    have e : a = 2 := by rcases hf with h | h | h | h | h | h <;> omega
    subst e
    show r ∈ closureP S ↔ Ok n 2 r ∧ (decide (r.getD 1 0 ∈ reachedP n S (r.getD 0 0)) || (false && decide (r.getD 0 0 = r.getD 1 0))) = true
    rw [Bool.false_and, Bool.or_false, decide_eq_true_eq]
    constructor
    · intro h
      have hok := closure_ok hS r h
      obtain ⟨p, q, rfl⟩ := two_of hok
      exact ⟨hok, (mem_reached hS).mpr ((mem_closure hn hS sS).mp h)⟩
    · rintro ⟨hok, h⟩
      obtain ⟨p, q, rfl⟩ := two_of hok
      exact (mem_closure hn hS sS).mpr ((mem_reached hS).mp h)
  · -- star
    have e : a = 2 := by rcases hf with h | h | h | h | h | h <;> omega
    subst e
    show r ∈ setOf (closureP S ++ idenP n) ↔ Ok n 2 r ∧ (decide (r.getD 1 0 ∈ reachedP n S (r.getD 0 0)) || (true && decide (r.getD 0 0 = r.getD 1 0))) = true
    rw [Bool.true_and, Bool.or_eq_true, decide_eq_true_eq, decide_eq_true_eq, mem_setOf, List.mem_append]
    constructor
    · rintro (h | h)
      · have hok := closure_ok hS r h
        obtain ⟨p, q, rfl⟩ := two_of hok
        exact ⟨hok, .inl ((mem_reached hS).mpr ((mem_closure hn hS sS).mp h))⟩
      · have hok := ok_iden r h
        obtain ⟨i, _, rfl⟩ := List.mem_map.mp h
        exact ⟨hok, .inr rfl⟩
    · rintro ⟨hok, h⟩
      obtain ⟨p, q, rfl⟩ := two_of hok
      rcases h with h | h
      · exact .inl ((mem_closure hn hS sS).mpr ((mem_reached hS).mp h))
      · have h : p = q := h
        subst h
        have hb := hok.2 p List.mem_cons_self
        refine .inr (List.mem_map.mpr ⟨p.toNat, List.mem_range.mpr (by omega), ?_⟩)
        have : ((p.toNat : Nat) : Int) = p := by omega
        rw [this]
  · -- override
    have e : a = b := by rcases hf with h | h | h | h | h | h <;> omega
    subst e
    show r ∈ setOf (T ++ S.filter fun r => !decide (r.headD 0 ∈ heads T)) ↔ Ok n a r ∧ (decide (r ∈ T) || (decide (r ∈ S) && (((setOf T).filter fun x => decide (x.headD 0 = r.headD 0)).map row).isEmpty)) = true
    rw [mem_setOf, List.mem_append, List.mem_filter, Bool.or_eq_true, Bool.and_eq_true, decide_eq_true_eq, decide_eq_true_eq]
    have key : (!decide (r.headD 0 ∈ heads T)) = true ↔ (((setOf T).filter fun x => decide (x.headD 0 = r.headD 0)).map row).isEmpty = true := by
      rw [List.isEmpty_map, List.isEmpty_iff, List.filter_eq_nil_iff, Bool.not_eq_true', decide_eq_false_iff_not]
      unfold heads
      rw [List.mem_map]
      constructor
      · intro h x hx hd
        exact h ⟨x, mem_setOf.mp hx, of_decide_eq_true hd⟩
      · rintro h ⟨x, hx, he⟩
        exact h x (mem_setOf.mpr hx) (decide_eq_true he)
    rw [key]
    exact ⟨fun h => ⟨h.elim (hT r) fun h => hS r h.1, h⟩, fun h => h.2⟩
  · -- ahead
    have e : fitN 9 a b = b := rfl
    show r ∈ T.filter (fun x => decide (cut none (some 1) x ∈ S)) ↔ Ok n b r ∧ (decide (r ∈ T) && decide (cut none (some 1) r ∈ S)) = true
    rw [List.mem_filter, Bool.and_eq_true, decide_eq_true_eq, decide_eq_true_eq]
    exact ⟨fun h => ⟨hT r h.1, h⟩, fun h => h.2⟩
  · show r ∈ S.filter (fun x => decide (cut (some (-1)) none x ∈ T)) ↔ Ok n a r ∧ (decide (r ∈ S) && decide (cut (some (-1)) none r ∈ T)) = true
    rw [List.mem_filter, Bool.and_eq_true, decide_eq_true_eq, decide_eq_true_eq]
    exact ⟨fun h => ⟨hS r h.1, h⟩, fun h => h.2⟩

theorem done_sorted {n a w : Nat} (hw : w ≤ 10) {S T : List (List Int)} (hS : OkS n a S) (sS : Sorted S) (sT : Sorted T) : Sorted (doneP w n S T) := by
  unfold doneP
  repeat' split
  · exact setOf_sorted _
  · exact closure_sorted sS
  · exact setOf_sorted _
  · exact setOf_sorted _
  · exact sorted_filter _ sS
  · exact sorted_filter _ sS
  · exact setOf_sorted _
  · exact sorted_flat sS (fun x hx => (hS x hx).1) fun x _ => ⟨T, rfl, sT⟩
  · exact setOf_sorted _
  · exact sorted_filter _ sT
  · exact sorted_filter _ sS

/-- the law, plain -/
theorem plain_law {n a b w : Nat} (hn : n ≤ 3) (ha : 1 ≤ a) (hb : 1 ≤ b) (hw : w ≤ 10) (hf : Fit w a b) {S T : List (List Int)} (hS : OkS n a S) (hT : OkS n b T) (sS : Sorted S) (sT : Sorted T) :
    doneP w n S T = (rowsP n (fitN w a b)).filter fun r => isInP w n r a S T :=
  sorted_ext (done_sorted hw hS sS sT) (sorted_filter _ rows_sorted) fun r => by rw [mem_done hn ha hb hw hf hS hT sS sT, List.mem_filter, mem_rowsP]
end Mine
end

section
open PySem PySem.W PyProof.Rows
set_option Elab.async false
set_option maxRecDepth 100000
set_option linter.unusedVariables false
namespace Mine
section
variable {prog : Program} {w : World} {g : Heap} {mg mb : Str → Option Value} {A : Around} {env : Env} {X X' Y Z M : Addr → Prop} {σ σ' : List (Str × AV)} {E : Value → Shared → Prop} {J J' K : Heap → Prop} {R : Flow → Heap → Prop}

variable (prog w g A X) in
/-- a call that changes what lies at Mut -/
noncomputable def ClJ (f : Value) (rs : List AV) (JX : (Addr → Prop) → Heap → Prop) (Mut : Addr → Prop) (P : AV → Prop) (JX' : (Addr → Prop) → Heap → Prop) : Prop := ∀ (s : Shared) (vs : List Value), Kp g s.heap → (∀ b, X b → (∃ o, s.heap.get? b = some o) ∧ g.get? b = none) → RelL X s.heap rs vs → JX X s.heap →
  wpAny (model prog w) A (call f vs []) (fun v s' => KeepsX Mut s s' ∧ JX' X s'.heap ∧ ∃ r, P r ∧ Rel X s'.heap r v) F0 s

theorem cl_defJ (G : Gnd g mg mb) {d : DefRec} (hd : d ∈ recs) {a : Addr} (ha : mg d.name = some (.ref a)) {k : Nat} (hA : Room (k + 1) A) {names : List Str} {rs : List AV} {JX JX' : (Addr → Prop) → Heap → Prop} {Mut : Addr → Prop} {P : AV → Prop} (hlen : names.length = rs.length)
    (hbind : ∀ pm cd doc (vs : List Value), vs.length = names.length → bindArgs (Calls.docDef d.name d.params d.body d.scope pm cd doc) ⟨vs, []⟩ = pure (names.zip vs))
    (hkd : (names.all fun y => d.scope.names.lookup y == some .local || d.scope.names.lookup y == some .cell) = true) (hnd : names.Nodup)
    (hco : d.scope.isCoroutine = false) (hgen : d.scope.isGenerator = false) (hk : d.scope.kind = .function)
    (hmv : ∀ (X X' : Addr → Prop) h h', JX X h → Move X h X' h' → (∀ b o, Mut b → h.get? b = some o → h'.get? b = some o) → JX X' h')
    (hmv' : ∀ (X X' : Addr → Prop) h h', JX' X h → Move X h X' h' → (∀ b o, Mut b → h.get? b = some o → h'.get? b = some o) → JX' X' h')
    (hMX : ∀ b, Mut b → X b)
    (body : ∀ L cd (X' : Addr → Prop), Fm g (envOfC d.name d.scope L a cd) X' → (∀ b, X b → X' b) → (∀ b, Mut b → ¬ Own (envOfC d.name d.scope L a cd) b) → Room k (A.deeper (envOfC d.name d.scope L a cd)) →
      Bg prog w g (A.deeper (envOfC d.name d.scope L a cd)) (envOfC d.name d.scope L a cd) X' (fun b => Own (envOfC d.name d.scope L a cd) b ∨ Mut b) (names.zip rs) (JX X') d.body (fun f h => ∃ v r, f = .ret v ∧ P r ∧ Rel X' h r v ∧ JX' X' h)) :
    ClJ prog w g A X (.ref a) rs JX Mut P JX' := fun s vs kg hX hr j => by
  obtain ⟨a', o, pm, cd, doc, h1, h2, h3, h4⟩ := G.fn d hd
  rw [ha] at h1; cases h1
  have hvl : vs.length = names.length := by rw [hlen, relL_length hr]
  have hfst := zip_fst names vs hvl.symm
  refine wpAny_call (call_cells_ret (hA.d) (kg _ _ h2) h3 (G.nl.keeps kg) (h4.keeps kg) (hbind pm cd doc vs hvl) (kindsX (by
    have e : ∀ (l : List (Str × Value)), (l.all fun y => d.scope.names.lookup y.1 == some .local || d.scope.names.lookup y.1 == some .cell) = (l.map (·.1)).all fun y => d.scope.names.lookup y == some .local || d.scope.names.lookup y == some .cell := fun l => by rw [List.all_map]; rfl
    rw [e, hfst]; exact hkd) _) (fun h₁ tk F C => ?_) hco hgen hk)
  generalize hE : envOfC d.name d.scope s.heap.objs.size a cd = en at F C ⊢
  have eL : en.locals = s.heap.objs.size := by rw [← hE]; rfl
  have eC : en.cells = cellsFrom (s.heap.objs.size + 1) d.scope.names [] := by rw [← hE]; rfl
  have off : ∀ b, Own en b → s.heap.get? b = none := fun b hb => by
    have : s.heap.objs.size ≤ b := by
      rcases hb with e | ⟨n, e⟩
      · rw [e, eL]; exact Nat.le_refl _
      · rw [eC] at e; exact Nat.le_of_lt (C.above n b (mem_of_lookup e))
    exact Heap.get?_none_of_le this
  have mv : Move X s.heap (fun b => X b ∨ Own en b) s.heap := Move.more fun b hb => hb.imp id (off b)
  have mv2 : Move (fun b => X b ∨ Own en b) s.heap (fun b => X b ∨ Own en b) h₁ := fun b o hb e => ⟨hb, F.keep b o e⟩
  have H : Fm g en (fun b => X b ∨ Own en b) := by
    refine ⟨by rw [← hE]; exact hk, by rw [← hE]; rfl, by rw [← hE]; rfl, .inr (.inl rfl), fun n c hc => ⟨.inr (.inr ⟨n, hc⟩), ?_⟩, fun n n' c hc hc' => ?_, fun b hb => hb.elim (fun q => (hX b q).2) fun q => none_of kg (off b q)⟩
    · rw [eC] at hc; rw [eL]; exact Nat.ne_of_gt (C.above n c (mem_of_lookup hc))
    · rw [eC] at hc hc'
      exact name_of_addr C.apart (mem_of_lookup hc) (mem_of_lookup hc')
  have S : St g en (fun b => X b ∨ Own en b) (names.zip rs) h₁ := by
    refine ⟨kg.trans F.keep, ⟨_, eL ▸ F.ns, fun x av hx hkx => ?_⟩, fun n c hc => ⟨_, C.cell n c (eC ▸ hc), fun av hx hkn => ?_⟩, fun b hb => ?_⟩
    · obtain ⟨v, hv, rv⟩ := zip_rel names rs vs x av hr hx
      exact ⟨v, bindL_hit _ _ _ _ (by rw [hfst]; exact hnd) hv hkx, (rv.move mv).move mv2⟩
    · obtain ⟨v, hv, rv⟩ := zip_rel names rs vs n av hr hx
      exact ⟨v, bindC_hit _ _ _ _ (by rw [hfst]; exact hnd) hv (by rcases hkn with q | q <;> rw [q] <;> simp), (rv.move mv).move mv2⟩
    · rcases hb with hb | rfl | ⟨n, hb⟩
      · obtain ⟨⟨o, ho⟩, _⟩ := hX b hb; exact ⟨o, F.keep b o ho⟩
      · obtain ⟨o, _, _, ho, _⟩ := F.ns; exact ⟨o, eL ▸ ho⟩
      · obtain ⟨o, ho, _⟩ := C.cell n b (eC ▸ hb); exact ⟨o, ho⟩
  have hMO : ∀ b, Mut b → ¬ Own en b := fun b hm ho => by obtain ⟨o, h⟩ := (hX b (hMX b hm)).1; rw [off b ho] at h; cases h
  have B := body s.heap.objs.size cd (fun b => X b ∨ Own en b) (by rw [hE]; exact H) (fun b hb => .inl hb) (by rw [hE]; exact hMO) (by exact hA.deeper)
  rw [hE] at B
  have j₁ : JX (fun b => X b ∨ Own en b) h₁ := hmv _ _ _ _ (hmv _ _ _ _ j mv fun _ _ _ e => e) mv2 fun b o _ e => F.keep b o e
  refine wpAny_mono (B _ S j₁) (fun f s' ⟨k, v, r, e, hp, rv, j'⟩ => ?_) fun _ _ e => e
  subst e
  obtain ⟨h', tk', rfl, kx⟩ := k
  refine ⟨⟨h', tk', rfl, fun b o hb e => kx b o (fun q => q.elim (fun q => ?_) hb) (F.keep b o e)⟩, hmv' _ _ _ _ j' (Move.less fun b hb => .inl hb) fun _ _ _ e => e, r, hp, rv.move (Move.less fun b hb => .inl hb)⟩
  rw [off b q] at e; cases e

variable (prog w g A env X M σ J) in
noncomputable def EvX (e : Expr) (P : AV → Prop) (J' : Heap → Prop) : Prop := ∀ s : Shared, St g env X σ s.heap → J s.heap → wpAny (model prog w) A (eval e env) (fun v s' => KeepsX M s s' ∧ St g env X σ s'.heap ∧ J' s'.heap ∧ ∃ r, P r ∧ Rel X s'.heap r v) F0 s

theorem evx_frame {e : Expr} {P : AV → Prop} (h : EvX prog w g A env X M σ J e P J') (hK : ∀ h h', K h → KpX M h h' → K h') : EvX prog w g A env X M σ (fun h => J h ∧ K h) e P (fun h => J' h ∧ K h) := fun s S j =>
  wpAny_mono (h s S j.1) (fun v s' ⟨k, S', j', q⟩ => ⟨k, S', ⟨j', hK _ _ j.2 k.kp⟩, q⟩) fun _ _ e => e
theorem evx_call {func : Expr} {args : List Expr} {pos : Pos} {f : Value} {r0 : AV} {rs : List AV} {P : AV → Prop} {JX JX' : (Addr → Prop) → Heap → Prop} (H : Fm g env X) (hf : Ev prog w g A env X σ func (.val f)) (hC : Callable g f) (ha : EvL prog w g A env X σ args (r0 :: rs)) (hc : ClJ prog w g A X f (r0 :: rs) JX M P JX')
    (hJ : StJ env (JX X)) (hMX : ∀ b, M b → X b) (hMO : ∀ b, M b → ¬ Own env b) (hML : ∀ h, JX' X h → ∀ b, M b → ∃ o, h.get? b = some o)
    (he : eval (.Call func args [] pos) env = (do callWith pos (← eval func env) [] (backTo pos (starEach args env)) (backToKw pos (keywordEach [] env)))) :
    EvX prog w g A env X M σ (JX X) (.Call func args [] pos) P (JX' X) := fun s S j => by
  rw [he]
  refine wpAny_bind (wpAny_mono (hf s S) (fun v s₁ ⟨k₁, r₁⟩ => ?_) fun _ _ e => e.elim)
  simp only [Rel] at r₁
  subst r₁
  show wpAny (model prog w) A (callWith pos v [] (backTo pos (starEach args env)) []) _ _ s₁
  have pl := evl_plain (pos := pos) args (r0 :: rs) ha
  have sp := evl_spliced (pos := pos) args (r0 :: rs) ha s₁ (S.ks k₁)
  obtain ⟨e0, es, rfl⟩ : ∃ e0 es, args = e0 :: es := by
    cases args with
    | nil => exact ha.elim
    | cons e es => exact ⟨e, es, rfl⟩
  have hst : backTo pos (starEach (e0 :: es) env) = (false, eval e0 env) :: backTo pos (starEach es env) := by rw [ha.2.1]; rfl
  have fin : ∀ (vs : List Value) (s₂ : Shared), Keeps s₁ s₂ ∧ RelL X s₂.heap (r0 :: rs) vs → wpAny (model prog w) A (call v ([] ++ vs) []) (fun v s' => KeepsX M s s' ∧ St g env X σ s'.heap ∧ JX' X s'.heap ∧ ∃ r, P r ∧ Rel X s'.heap r v) F0 s₂ := fun vs s₂ ⟨k₂, r₂⟩ => by
    have S₂ := (S.ks k₁).ks k₂
    exact wpAny_mono (hc s₂ vs S₂.kg (live_of H S₂) r₂ (hJ.ks (hJ.ks j k₁) k₂)) (fun x s₃ ⟨k₃, j₃, q⟩ => ⟨(keeps_x (keeps_trans k₁ k₂)).trans k₃, S₂.kx H k₃ fun b hb => ⟨hMX b hb, hMO b hb, hML _ j₃ b hb⟩, j₃, q⟩) fun _ _ e => e
  rcases hC with ⟨id, rfl⟩ | ⟨T, rfl⟩ | ⟨a, o, fd, rfl, ho, hd⟩
  · refine Calls.callWith_builtin pl ?_
    rw [hst] at sp ⊢
    exact Calls.evalArgs_plain (wpAny_mono sp fin fun _ _ e => e)
  · refine PyProof.Rows.callWith_type pl ?_
    rw [hst] at sp ⊢
    exact Calls.evalArgs_plain (wpAny_mono sp fin fun _ _ e => e)
  · refine Calls.callWith_function (o := o) (fd := fd) ?_
    rw [hst] at sp ⊢
    refine Calls.evalArgs_plain (wpAny_mono sp (fun vs s₂ q => ⟨⟨?_, hd⟩, fin vs s₂ q⟩) fun _ _ e => e)
    exact ((S.ks k₁).ks q.1).kg _ _ ho

/-- an operator whose right side is impure -/
theorem evx_bin {l r : Expr} {op pos a} {P Q : AV → Prop} (H : Fm g env X) (hJ : StJ env J) (hJ' : StJ env J') (hMX : ∀ b, M b → X b) (ha : Ev prog w g A env X σ l a) (hb : EvX prog w g A env X M σ J r P J') (ho : ∀ b, P b → ∃ c, Q c ∧ Op2 prog w g A X (binaryOp op) a b c) : EvX prog w g A env X M σ J (.BinOp l op r pos) Q J' := fun s S j => by
  refine wpAny_BinOp (wpAny_mono (ha s S) (fun u s₁ ⟨k₁, r₁⟩ => wpAny_mono (hb s₁ (S.ks k₁) (hJ.ks j k₁)) (fun v s₂ ⟨k₂, S₂, j₂, b, hp, r₂⟩ => ?_) fun _ _ e => e.elim) fun _ _ e => e.elim)
  obtain ⟨c, hq, ho⟩ := ho b hp
  exact wpAny_mono (ho s₂ u v S₂.kg (live_of H S₂) (r₁.move (k₂.kp.mono hMX).move) r₂) (fun x s₃ ⟨k₃, r₃⟩ => ⟨((keeps_x k₁).trans k₂).trans (keeps_x k₃), S₂.ks k₃, hJ'.ks j₂ k₃, c, hq, r₃⟩) fun _ _ e => e

/-- an item of a list at an impure place -/
theorem evx_item {value slice : Expr} {pos l} {P Q : AV → Prop} (hJ : StJ env J) (hMX : ∀ b, M b → X b) (hv : Ev prog w g A env X σ value (.list l)) (hi : EvX prog w g A env X M σ J slice P J') (hr : ∀ r, P r → ∃ (k : Nat) (a : AV), r = .int k ∧ l[k]? = some a ∧ k ≤ 1000 ∧ Q a)
    (hs : ∀ (t : Addr) (k : Int) (u : Tok), subscripted slice false (.ref t) (.int k u) = operate [.ref t, .int k u] (getItem (.ref t) (.int k u))) : EvX prog w g A env X M σ J (.Subscript value slice pos) Q J' := fun s S j => by
  refine Subscript_ (wpAny_mono (hv s S) (fun o s₁ ⟨k₁, r₁⟩ => wpAny_mono (hi s₁ (S.ks k₁) (hJ.ks j k₁)) (fun i s₂ ⟨k₂, S₂, j₂, ri, hp, r₂⟩ => ?_) fun _ _ e => e.elim) fun _ _ e => e.elim)
  have r₁ := r₁.move (k₂.kp.mono hMX).move
  obtain ⟨k, a, rfl, hl, hk, hq⟩ := hr ri hp
  simp only [Rel] at r₁ r₂
  obtain ⟨ad, vs, n, rfl, ha, ho, q⟩ := r₁
  obtain ⟨u, rfl⟩ := r₂
  obtain ⟨v, hv', rv⟩ := relL_get' q hl
  have hL := isList_of ho
  exact tail_any hL.typeIs slot_list_getitem.lookup (wpAny_getItem_list hL (by omega) (by omega) (by simpa using hv') ⟨(keeps_x k₁).trans k₂, S₂, j₂, a, hq, rv⟩) (hs _ _ _)

/- statements -/
theorem bgx_assign {x p e pos rest} {P : AV → Prop} (H : Fm g env X) (hZ : ∀ b, Own env b → Z b) (hMZ : ∀ b, M b → Z b) (hJ' : StJ env J') (he : EvX prog w g A env X M σ J e P J')
    (hk : env.kindOf x = some .local ∨ env.kindOf x = some .cell ∧ ∃ c, env.cells.lookup x = some c) (hs : swapsWith e (some (.Name x p)) pos.line env = pure false)
    (h : ∀ r, P r → Bg prog w g A env X Z ((x, r) :: σ) J' rest R) : Bg prog w g A env X Z σ J (.Assign [.Name x p] e pos :: rest) R := fun s S j => by
  refine wpAny_execs_cons (wpAny_Assign_Name (wpAny_mono (he s S j) (fun v s₁ ⟨k₁, S₁, j₁, r, hp, r₁⟩ => ?_) fun _ _ e => e) hs)
  refine store_name H S₁ r₁ hk fun s₂ k₂ S₂ => ?_
  exact wpAny_mono (h r hp s₂ S₂ (hJ' _ _ k₂.kp j₁)) (fun f s₃ ⟨k₃, q⟩ => ⟨((k₁.mono hMZ).trans (k₂.mono hZ)).trans k₃, q⟩) fun _ _ e => e
theorem bgx_ret {e pos rest} {P : AV → Prop} (hMZ : ∀ b, M b → Z b) (he : EvX prog w g A env X M σ J e P J') (h : ∀ h v r, St g env X σ h → J' h → P r → Rel X h r v → R (.ret v) h) : Bg prog w g A env X Z σ J (.Return (some e) pos :: rest) R := fun s S j =>
  wpAny_execs_cons (wpAny_Return_some (wpAny_mono (he s S j) (fun v s₁ ⟨k₁, S₁, j₁, r, hp, r₁⟩ => ⟨k₁.mono hMZ, h _ v r S₁ j₁ hp r₁⟩) fun _ _ e => e))
end
end Mine
end

section
open PySem PySem.W PyProof.Rows
set_option Elab.async false
set_option maxRecDepth 100000
set_option linter.unusedVariables false
namespace Mine

noncomputable def Tape (prog : Program) (w : World) (T : Addr) (cv : Value) (cells : List Int) (spot : Nat) (X : Addr → Prop) (h : Heap) : Prop :=
  ∃ t, h.DictOf (strKind prog w) T [(("cells" : Str), cv), (("spot" : Str), .int (spot : Int) t)] ∧ Rel X h (.list (intsA cells)) cv

section
variable {prog : Program} {w : World} {g : Heap} {mg mb : Str → Option Value} {A : Around} {env : Env} {X X' Y Z M : Addr → Prop} {σ σ' : List (Str × AV)} {E : Value → Shared → Prop} {J J' K : Heap → Prop} {R : Flow → Heap → Prop}

theorem Tape.move {T : Addr} {cv : Value} {cells : List Int} {spot : Nat} {h h' : Heap} (x : Tape prog w T cv cells spot X h) (M : Move X h X' h') (e : ∀ o, h.get? T = some o → h'.get? T = some o) : Tape prog w T cv cells spot X' h' := by
  obtain ⟨t, ⟨o, es, ep, ho, r⟩, q⟩ := x
  exact ⟨t, ⟨o, es, ep, e o ho, r⟩, q.move M⟩
theorem tape_mv {T : Addr} {cv : Value} {cells : List Int} {spot : Nat} : ∀ (X X' : Addr → Prop) h h', Tape prog w T cv cells spot X h → Move X h X' h' → (∀ b o, b = T → h.get? b = some o → h'.get? b = some o) → Tape prog w T cv cells spot X' h' := fun X X' h h' x M e => x.move M fun o => e T o rfl
theorem Tape.stj {T : Addr} {cv : Value} {cells : List Int} {spot : Nat} (hO : ∀ b, Own env b → X b) (hT : ¬ Own env T) : StJ env (Tape prog w T cv cells spot X) := fun h h' k x => x.move (k.mono hO).move fun o e => k T o hT e
theorem Tape.live {T : Addr} {cv : Value} {cells : List Int} {spot : Nat} {h : Heap} (x : Tape prog w T cv cells spot X h) : ∃ o, h.get? T = some o := let ⟨_, ⟨o, _, _, ho, _⟩, _⟩ := x; ⟨o, ho⟩

/- rules with a heap fact -/
theorem evj_bin {l r : Expr} {op pos a b c} (H : Fm g env X) (hJ : StJ env J) (ha : EvJ prog w g A env X σ J l a) (hb : EvJ prog w g A env X σ J r b) (ho : Op2 prog w g A X (binaryOp op) a b c) : EvJ prog w g A env X σ J (.BinOp l op r pos) c := fun s S j => by
  refine wpAny_BinOp (wpAny_mono (ha s S j) (fun u s₁ ⟨k₁, r₁⟩ => wpAny_mono (hb s₁ (S.ks k₁) (hJ.ks j k₁)) (fun v s₂ ⟨k₂, r₂⟩ => ?_) fun _ _ e => e.elim) fun _ _ e => e.elim)
  have S₂ := (S.ks k₁).ks k₂
  exact wpAny_mono (ho s₂ u v S₂.kg (live_of H S₂) (rel_ks r₁ k₂) r₂) (fun x s₃ ⟨k₃, r₃⟩ => ⟨keeps_trans (keeps_trans k₁ k₂) k₃, r₃⟩) fun _ _ e => e
theorem trj_cmp {l r : Expr} {op pos a b} {c : Bool} (H : Fm g env X) (hJ : StJ env J) (ha : EvJ prog w g A env X σ J l a) (hb : EvJ prog w g A env X σ J r b) (ho : Op2 prog w g A X (compareOp op) a b (.bool c)) (hm : behindInMarks op r = false) : TrJ prog w g A env X σ J (.Compare l [op] [r] pos) c := fun s S j => by
  refine wpAny_isTrue_Compare1 (wpAny_mono (ha s S j) (fun u s₁ ⟨k₁, r₁⟩ => wpAny_mono (hb s₁ (S.ks k₁) (hJ.ks j k₁)) (fun v s₂ ⟨k₂, r₂⟩ => ?_) fun _ _ e => e.elim) fun _ _ e => e.elim) hm
  have S₂ := (S.ks k₁).ks k₂
  refine wpAny_mono (ho s₂ u v S₂.kg (live_of H S₂) (rel_ks r₁ k₂) r₂) (fun x s₃ ⟨k₃, r₃⟩ => ?_) fun _ _ e => e
  simp only [Rel] at r₃
  subst r₃
  exact wpAny_truthy_bool ⟨keeps_trans (keeps_trans k₁ k₂) k₃, rfl⟩
theorem evj_call1 {func arg : Expr} {pos : Pos} {id : String} {a r : AV} (H : Fm g env X) (hJ : StJ env J) (hf : Ev prog w g A env X σ func (.val (.builtin id))) (ha : EvJ prog w g A env X σ J arg a) (hs : starEach [arg] env = [(false, eval arg env)]) (hc : Cl prog w g A X (.builtin id) [a] r)
    (he : eval (.Call func [arg] [] pos) env = (do callWith pos (← eval func env) [] (backTo pos (starEach [arg] env)) (backToKw pos (keywordEach [] env)))) : EvJ prog w g A env X σ J (.Call func [arg] [] pos) r := fun s S j => by
  rw [he]
  refine wpAny_bind (wpAny_mono (hf s S) (fun v s₁ ⟨k₁, r₁⟩ => ?_) fun _ _ e => e.elim)
  simp only [Rel] at r₁
  subst r₁
  show wpAny (model prog w) A (callWith pos (.builtin id) [] (backTo pos (starEach [arg] env)) []) _ _ s₁
  have hst : backTo pos (starEach [arg] env) = [(false, eval arg env)] := by rw [hs]; rfl
  rw [hst]
  refine Calls.callWith_builtin rfl (Calls.evalArgs_plain (Calls.spliced_cons (wpAny_mono (ha s₁ (S.ks k₁) (hJ.ks j k₁)) (fun v s₂ ⟨k₂, r₂⟩ => Calls.spliced_nil ?_) fun _ _ e => e.elim)))
  have S₂ := (S.ks k₁).ks k₂
  exact wpAny_mono (hc s₂ [v] S₂.kg (live_of H S₂) (by simp only [RelL]; exact ⟨r₂, trivial⟩)) (fun x s₃ ⟨k₃, r₃⟩ => ⟨keeps_trans (keeps_trans k₁ k₂) k₃, r₃⟩) fun _ _ e => e
theorem evj_itemL {value slice : Expr} {pos l} {k : Nat} {r : AV} (hJ : StJ env J) (hv : EvJ prog w g A env X σ J value (.list l)) (hi : Ev prog w g A env X σ slice (.int k)) (hr : l[k]? = some r) (hk : k ≤ 1000)
    (hs : ∀ (t : Addr) (u : Tok), subscripted slice false (.ref t) (.int k u) = operate [.ref t, .int k u] (getItem (.ref t) (.int k u))) : EvJ prog w g A env X σ J (.Subscript value slice pos) r := fun s S j => by
  refine Subscript_ (wpAny_mono (hv s S j) (fun o s₁ ⟨k₁, r₁⟩ => wpAny_mono (hi s₁ (S.ks k₁)) (fun i s₂ ⟨k₂, r₂⟩ => ?_) fun _ _ e => e.elim) fun _ _ e => e.elim)
  have r₁ := rel_ks r₁ k₂
  simp only [Rel] at r₁ r₂
  obtain ⟨a, vs, n, rfl, ha, ho, q⟩ := r₁
  obtain ⟨u, rfl⟩ := r₂
  obtain ⟨v, hv', rv⟩ := relL_get' q hr
  have hL := isList_of ho
  exact tail_any hL.typeIs slot_list_getitem.lookup (wpAny_getItem_list hL (by omega) (by omega) (by simpa using hv') ⟨keeps_trans k₁ k₂, rv⟩) (hs _ _)

/-- tape['cells'], tape['spot'] -/
theorem evj_cells {o : Expr} {kk : Nat} {p pos : Pos} {T : Addr} {cv : Value} {cells : List Int} {spot : Nat} (hJ : StJ env (Tape prog w T cv cells spot X)) (ho : Ev prog w g A env X σ o (.val (.ref T))) :
    EvJ prog w g A env X σ (Tape prog w T cv cells spot X) (.Subscript o (.Constant (.str "cells") kk p) pos) (.list (intsA cells)) := fun s S j => by
  refine Subscript_ (wpAny_mono (ho s S) (fun o s₁ ⟨k₁, r₁⟩ => wpAny_mono ((ev_str (k := kk) (pos := p) (i := "cells")) s₁ (S.ks k₁)) (fun i s₂ ⟨k₂, r₂⟩ => ?_) fun _ _ e => e.elim) fun _ _ e => e.elim)
  simp only [Rel] at r₁ r₂
  subst r₁
  obtain ⟨u, rfl⟩ := r₂
  obtain ⟨t, hd, q⟩ := hJ.ks (hJ.ks j k₁) k₂
  exact tail_any hd.typeIs slot_dict_getitem.lookup (wpAny_getItem_of (knd := strKind prog w) (strKind_is prog w _ u) hd.mapOf (v := cv) rfl ⟨keeps_trans (keeps_trans k₁ k₂) (keeps_tok _ _), q⟩) rfl
theorem evj_spot {o : Expr} {kk : Nat} {p pos : Pos} {T : Addr} {cv : Value} {cells : List Int} {spot : Nat} (hJ : StJ env (Tape prog w T cv cells spot X)) (ho : Ev prog w g A env X σ o (.val (.ref T))) :
    EvJ prog w g A env X σ (Tape prog w T cv cells spot X) (.Subscript o (.Constant (.str "spot") kk p) pos) (.int (spot : Int)) := fun s S j => by
  refine Subscript_ (wpAny_mono (ho s S) (fun o s₁ ⟨k₁, r₁⟩ => wpAny_mono ((ev_str (k := kk) (pos := p) (i := "spot")) s₁ (S.ks k₁)) (fun i s₂ ⟨k₂, r₂⟩ => ?_) fun _ _ e => e.elim) fun _ _ e => e.elim)
  simp only [Rel] at r₁ r₂
  subst r₁
  obtain ⟨u, rfl⟩ := r₂
  obtain ⟨t, hd, q⟩ := hJ.ks (hJ.ks j k₁) k₂
  exact tail_any hd.typeIs slot_dict_getitem.lookup (wpAny_getItem_of (knd := strKind prog w) (strKind_is prog w _ u) hd.mapOf (v := .int (spot : Int) t) rfl ⟨keeps_trans (keeps_trans k₁ k₂) (keeps_tok _ _), by simp only [Rel]; exact ⟨_, rfl⟩⟩) rfl

/-- tape['spot'] = e -/
theorem bg_spot {o e : Expr} {kk : Nat} {p p2 pos : Pos} {rest : List Stmt} {T : Addr} {cv : Value} {cells : List Int} {spot spot' : Nat} (H : Fm g env X) (hTX : X T) (hTO : ¬ Own env T) (hZT : Z T) (ho : Ev prog w g A env X σ o (.val (.ref T))) (he : Ev prog w g A env X σ e (.int (spot' : Int)))
    (hs : swapsWith e (some (.Subscript o (.Constant (.str "spot") kk p) p2)) pos.line env = pure false) (h : Bg prog w g A env X Z σ (Tape prog w T cv cells spot' X) rest R) :
    Bg prog w g A env X Z σ (Tape prog w T cv cells spot X) (.Assign [.Subscript o (.Constant (.str "spot") kk p) p2] e pos :: rest) R := fun s S j => by
  have hJ : StJ env (Tape prog w T cv cells spot X) := Tape.stj (fun b hb => own_x H hb) hTO
  refine wpAny_execs_cons (wpAny_Assign_Subscript (wpAny_mono (he s S) (fun v s₁ ⟨k₁, r₁⟩ => wpAny_mono (ho s₁ (S.ks k₁)) (fun ov s₂ ⟨k₂, r₂⟩ => wpAny_mono ((ev_str (k := kk) (pos := p) (i := "spot")) s₂ ((S.ks k₁).ks k₂)) (fun iv s₃ ⟨k₃, r₃⟩ => ?_) fun _ _ e => e.elim) fun _ _ e => e.elim) fun _ _ e => e.elim) hs)
  simp only [Rel] at r₁ r₂ r₃
  obtain ⟨t1, rfl⟩ := r₁
  subst r₂
  obtain ⟨u, rfl⟩ := r₃
  have k03 := keeps_trans (keeps_trans k₁ k₂) k₃
  obtain ⟨t, hd, q⟩ := hJ.ks j k03
  refine wpAny_setItem_pairs (knd := strKind prog w) (strKind_is prog w _ u) hd (fun h' hd' hs' => ?_) (by rw [sizeLine_eq]; simp)
  have kx : KeepsX (· = T) s₃ { s₃ with heap := h', toks := s₃.toks + 1 } := ⟨h', _, rfl, fun b o hb e => hs'.extBut b o hb e⟩
  have S₃ := S.ks k03
  have S₄ : St g env X σ h' := S₃.kx (s' := { s₃ with heap := h', toks := s₃.toks + 1 }) H kx fun b hb => ⟨hb ▸ hTX, hb ▸ hTO, let ⟨o, _, _, ho, _⟩ := hd'; ⟨o, hb ▸ ho⟩⟩
  refine wpAny_mono (h _ S₄ ⟨t1, ?_, q.move (kx.kp.mono fun b hb => hb ▸ hTX).move⟩) (fun f s₅ ⟨k₅, z⟩ => ⟨((keeps_x k03).trans (kx.mono fun b hb => hb ▸ hZT)).trans k₅, z⟩) fun _ _ e => e
  exact hd'

theorem bgj_if {t body pos rest} {b : Bool} (hR : ∀ h, ¬ R .next h) (hJ : StJ env J) (ht : TrJ prog w g A env X σ J t b) (h1 : b = true → Bg prog w g A env X Z σ J body R) (h2 : b = false → Bg prog w g A env X Z σ J rest R) :
    Bg prog w g A env X Z σ J (.If t body [] pos :: rest) R := fun s S j => by
  refine wpAny_execs_cons (wpAny_If (wpAny_mono (ht s S j) (fun c s₁ ⟨k₁, e⟩ => ?_) fun _ _ e => e))
  subst e
  have j₁ := hJ.ks j k₁
  cases c with
  | true =>
    rw [if_pos rfl]
    refine wpAny_mono (h1 rfl s₁ (S.ks k₁) j₁) (fun f s₂ ⟨k₂, q⟩ => ?_) fun _ _ e => e
    cases f with
    | next => exact (hR _ q).elim
    | brk => exact ⟨(keeps_x k₁).trans k₂, q⟩
    | cont => exact ⟨(keeps_x k₁).trans k₂, q⟩
    | ret v => exact ⟨(keeps_x k₁).trans k₂, q⟩
  | false =>
    rw [if_neg (by simp)]
    refine wpAny_execs_nil ?_
    exact wpAny_mono (h2 rfl s₁ (S.ks k₁) j₁) (fun f s₂ ⟨k₂, q⟩ => ⟨(keeps_x k₁).trans k₂, q⟩) fun _ _ e => e

noncomputable def lenOf : Option Stmt → Expr
  | some (.If (.Compare _ _ [e] _) _ _ _) => e
  | _ => .Constant .none 0 ⟨0, 0, 0, 0⟩

/-- a drawn number -/
noncomputable def Drawn (many : Int) (r : AV) : Prop := ∃ i : Int, r = .int i ∧ 0 ≤ i ∧ i < many

theorem c_draw (G : Gnd g mg mb) (hA : Room 5 A) {fa : Addr} (ha : mg Flaw_draw.name = some (.ref fa)) {T : Addr} (hTX : X T) {cv : Value} {cells : List Int} {spot : Nat} {many : Int} (hm : 0 < many) (hsp : spot ≤ 1000) (hcl : cells.length ≤ 1000) :
    ClJ prog w g A X (.ref fa) [.val (.ref T), .int many] (Tape prog w T cv cells spot) (· = T) (Drawn many) (Tape prog w T cv cells (spot + 1)) := by
  refine cl_defJ G (d := Flaw_draw) (by simp [recs]) ha (k := 4) (names := ["tape", "many"]) hA rfl (fun _ _ _ vs h => ?_) rfl (by decide) rfl rfl rfl tape_mv tape_mv (fun b hb => hb ▸ hTX) fun L cd X' H hXX hMO hA' => ?_
  · match vs, h with
    | [v, u], _ => rfl
  · have hTO := hMO T rfl
    have hTX' := hXX T hTX
    have hJ : ∀ k, StJ (envOfC Flaw_draw.name Flaw_draw.scope L fa cd) (Tape prog w T cv cells k X') := fun k => Tape.stj (fun b hb => own_x H hb) hTO
    refine bgj_assign H (fun b hb => .inl hb) (hJ _) (evj_spot (hJ _) (by first | exact ev_local (by assumption) rfl rfl rfl | exact ev_cell' (by assumption) rfl rfl rfl rfl)) (.inl rfl) rfl ?_
    refine bg_spot (spot' := spot + 1) H hTX' hTO (.inr rfl) (by first | exact ev_local (by assumption) rfl rfl rfl | exact ev_cell' (by assumption) rfl rfl rfl rfl) (ev_eq (ev_bin H (by first | exact ev_local (by assumption) rfl rfl rfl | exact ev_cell' (by assumption) rfl rfl rfl rfl) ev_int op_add) (by rfl)) rfl ?_
    have hlen : EvJ prog w g (A.deeper (envOfC Flaw_draw.name Flaw_draw.scope L fa cd)) (envOfC Flaw_draw.name Flaw_draw.scope L fa cd) X' [("spot", .int (spot : Int)), ("tape", .val (.ref T)), ("many", .int many)] (Tape prog w T cv cells (spot + 1) X') (lenOf Flaw_draw.body[2]?) (.int (intsA cells).length) :=
      evj_call1 H (hJ _) (by exact ev_boot (by assumption) (by assumption) (by simp [bnames]) rfl rfl rfl) (evj_cells (hJ _) (by first | exact ev_local (by assumption) rfl rfl rfl | exact ev_cell' (by assumption) rfl rfl rfl rfl)) rfl (cl_lenL (by rw [List.length_map]; omega)) rfl
    refine bgj_if (b := decide ((spot : Int) < (intsA cells).length)) (fun h ⟨_, _, e, _⟩ => nomatch e) (hJ _) (trj_cmp H (hJ _) (ev_j (by first | exact ev_local (by assumption) rfl rfl rfl | exact ev_cell' (by assumption) rfl rfl rfl rfl)) hlen op_lt rfl) (fun hb => ?_) fun hb => ?_
    · have hlt : spot < cells.length := by simpa using of_decide_eq_true hb
      refine bgj_ret (hJ _) (evj_bin H (hJ _) (evj_itemL (k := spot) (r := .int (cells.getD spot 0)) (hJ _) (evj_cells (hJ _) (by first | exact ev_local (by assumption) rfl rfl rfl | exact ev_cell' (by assumption) rfl rfl rfl rfl)) (by first | exact ev_local (by assumption) rfl rfl rfl | exact ev_cell' (by assumption) rfl rfl rfl rfl) (by rw [List.getElem?_map]; simp [hlt]) hsp (fun _ _ => rfl)) (ev_j (by first | exact ev_local (by assumption) rfl rfl rfl | exact ev_cell' (by assumption) rfl rfl rfl rfl)) (op_mod hm)) fun h v S j r => ⟨v, _, rfl, ⟨_, rfl, Int.emod_nonneg _ (by omega), Int.emod_lt_of_pos _ hm⟩, r, j⟩
    · have m1 : IntMulOk 37 (spot : Int) := .of_left (by decide)
      have m2 : IntMulOk (37 * (spot : Int)) spot := .of_left (intBits_le_64 (by omega) (by omega))
      refine bgj_ret (hJ _) (evj_bin H (hJ _) (evj_bin H (hJ _) (evj_bin H (hJ _) (evj_bin H (hJ _) (evj_bin H (hJ _) (evj_bin H (hJ _) (ev_j (ev_bin H ev_int (by first | exact ev_local (by assumption) rfl rfl rfl | exact ev_cell' (by assumption) rfl rfl rfl rfl) (op_mul m1))) (ev_j (by first | exact ev_local (by assumption) rfl rfl rfl | exact ev_cell' (by assumption) rfl rfl rfl rfl)) (op_mul m2)) (ev_j (ev_bin H ev_int (by first | exact ev_local (by assumption) rfl rfl rfl | exact ev_cell' (by assumption) rfl rfl rfl rfl) (op_mul (.of_left (by decide))))) op_add) (evj_bin H (hJ _) (ev_j ev_int) (evj_call1 H (hJ _) (by exact ev_boot (by assumption) (by assumption) (by simp [bnames]) rfl rfl rfl) (evj_cells (hJ _) (by first | exact ev_local (by assumption) rfl rfl rfl | exact ev_cell' (by assumption) rfl rfl rfl rfl)) rfl (cl_lenL (by rw [List.length_map]; omega)) rfl) (op_mul (.of_left (by decide)))) op_add) (ev_j ev_int) op_add) (ev_j ev_int) (op_mod (by decide))) (ev_j (by first | exact ev_local (by assumption) rfl rfl rfl | exact ev_cell' (by assumption) rfl rfl rfl rfl)) (op_mod hm)) fun h v S j r => ⟨v, _, rfl, ⟨_, rfl, Int.emod_nonneg _ (by omega), Int.emod_lt_of_pos _ hm⟩, r, j⟩
end
end Mine
end

section
open PySem PySem.W PyProof.Rows
set_option Elab.async false
set_option maxRecDepth 100000
set_option linter.unusedVariables false
namespace Mine

/-- an entry of the pool -/
noncomputable def itemA (a : Nat) (S : List (List Int)) : AV := .tup [.int a, rowsT S, rowsL S, .rows S]
noncomputable abbrev Entry := Value × Nat × List (List Int)
noncomputable def encE (p : Entry) : AV := .the p.1 (itemA p.2.1 p.2.2)

section
variable {prog : Program} {w : World} {g : Heap} {mg mb : Str → Option Value} {A : Around} {env : Env} {X X' Y Z M : Addr → Prop} {σ σ' : List (Str × AV)} {E : Value → Shared → Prop} {J J' K : Heap → Prop} {R : Flow → Heap → Prop}

theorem ev_the {e : Expr} {u : Value} {a : AV} (h : Ev prog w g A env X σ e (.the u a)) : Ev prog w g A env X σ e a := fun s S =>
  wpAny_mono (h s S) (fun v s' ⟨k, r⟩ => ⟨k, by simp only [Rel] at r; exact r.2⟩) fun _ _ e => e

/-- one[k] of an entry -/
theorem ev_part {value slice : Expr} {pos : Pos} {p : Entry} {k : Nat} {r : AV} (hv : Ev prog w g A env X σ value (encE p)) (hi : Ev prog w g A env X σ slice (.int (k : Int))) (hr : [AV.int p.2.1, rowsT p.2.2, rowsL p.2.2, .rows p.2.2][k]? = some r) (hk : k < 4)
    (hs : ∀ (t : Addr) (u : Tok), subscripted slice false (.ref t) (.int k u) = operate [.ref t, .int k u] (getItem (.ref t) (.int k u))) : Ev prog w g A env X σ (.Subscript value slice pos) r :=
  ev_item (k := (k : Int)) (j := k) (ev_the hv) hi (by rw [seqIndex_of (by omega) (by simp; omega)]; rfl) hr (by omega) (fun t u => hs t u)

theorem evx_tup2 {e1 e2 : Expr} {kk : Nat} {pos : Pos} {a : AV} {P : AV → Prop} (H : Fm g env X) (hJ : StJ env J) (hJ' : StJ env J') (hMX : ∀ b, M b → X b) (h1 : Ev prog w g A env X σ e1 a) (h2 : EvX prog w g A env X M σ J e2 P J') (hst : ∀ pos, backTo pos (starEach [e1, e2] env) = [(false, eval e1 env), (false, eval e2 env)]) :
    EvX prog w g A env X M σ J (.Tuple [e1, e2] kk pos) (fun r => ∃ b, P b ∧ r = .tup [a, b]) J' := fun s S j => by
  show wpAny (model prog w) A (do standAt pos; newTuple (← spliced (backTo pos (starEach [e1, e2] env)))) _ _ s
  rw [hst]
  refine wpAny_bind (wpAny_standAt (wpAny_bind (Calls.spliced_cons (wpAny_mono (h1 s S) (fun u s₁ ⟨k₁, r₁⟩ => Calls.spliced_cons (wpAny_mono (h2 s₁ (S.ks k₁) (hJ.ks j k₁)) (fun v s₂ ⟨k₂, S₂, j₂, b, hp, r₂⟩ => Calls.spliced_nil ?_) fun _ _ e => e.elim)) fun _ _ e => e.elim))))
  refine wpAny_newTuple ?_ (by rw [sizeLine_eq]; simp)
  obtain ⟨k₃, r₃⟩ := new_tup (s := s₂) (vs := #[u, v]) (l := [a, b]) (live_of H S₂) (by simp only [RelL]; exact ⟨r₁.move (k₂.kp.mono hMX).move, r₂, trivial⟩)
  exact ⟨((keeps_x k₁).trans k₂).trans (keeps_x k₃), S₂.ks k₃, hJ'.ks j₂ k₃, _, ⟨b, hp, rfl⟩, r₃⟩

theorem sorted_pick {R : List (List Int)} (h : Sorted R) (p : Nat → Bool) : Sorted (((List.range R.length).filter p).map fun k => R.getD k []) := by
  unfold Sorted
  rw [List.pairwise_map]
  have h1 : ((List.range R.length).filter p).Pairwise (· < ·) := List.Pairwise.filter p List.pairwise_lt_range
  refine List.Pairwise.imp_of_mem (fun {i j} hi hj hij => ?_) h1
  have hj' : j < R.length := by have := (List.mem_filter.mp hj).1; simpa using this
  have := List.pairwise_iff_getElem.mp h i j (by omega) hj' hij
  simpa [show i < R.length by omega, hj'] using this

theorem c_drawn (G : Gnd g mg mb) (hA : Room 9 A) {fa : Addr} (ha : mg Flaw_drawn.name = some (.ref fa)) {T : Addr} (hTX : X T) {cv : Value} {cells : List Int} {spot n a : Nat} (hsp : spot ≤ 1000) (hcl : cells.length ≤ 1000) (hn : n ≤ 3) (ha3 : a ≤ 3) :
    ClJ prog w g A X (.ref fa) [.val (.ref T), .int n, .int a] (Tape prog w T cv cells spot) (· = T) (fun r => ∃ S, r = rowsL S ∧ OkS n a S ∧ Sorted S) (Tape prog w T cv cells (spot + 1)) := by
  refine cl_defJ G (d := Flaw_drawn) (by simp [recs]) ha (k := 8) (names := ["tape", "n", "arity"]) hA rfl (fun _ _ _ vs h => ?_) rfl (by decide) rfl rfl rfl tape_mv tape_mv (fun b hb => hb ▸ hTX) fun L cd X' H hXX hMO hA' => ?_
  · match vs, h with
    | [v, u, x], _ => rfl
  · have hTO := hMO T rfl
    have hTX' := hXX T hTX
    have hJ : ∀ k, StJ (envOfC Flaw_drawn.name Flaw_drawn.scope L fa cd) (Tape prog w T cv cells k X') := fun k => Tape.stj (fun b hb => own_x H hb) hTO
    obtain ⟨ar, har, hCr⟩ := fn_of G (d := Flaw_rows) (by simp [recs])
    obtain ⟨ad, had, hCd⟩ := fn_of G (d := Flaw_draw) (by simp [recs])
    have hlen : (rowsP n a).length ≤ 27 := by rw [rowsP_len]; exact pow_le hn ha3
    refine bg_assign H (fun b hb => .inl hb) (hJ _) (r := rowsL (rowsP n a)) (ev_call H (ev_glob G H har rfl rfl) hCr (evl_cons (by first | exact ev_local (by assumption) rfl rfl rfl | exact ev_cell' (by assumption) rfl rfl rfl rfl) rfl (evl_cons (by first | exact ev_local (by assumption) rfl rfl rfl | exact ev_cell' (by assumption) rfl rfl rfl rfl) rfl evl_nil)) (c_rows G (hA'.le (by decide)) har hn ha3) rfl) (.inr ⟨rfl, _, rfl⟩) rfl ?_
    refine bgx_assign (M := fun b => b = T) (P := Drawn (2 ^ (rowsP n a).length)) (J' := Tape prog w T cv cells (spot + 1) X') H (fun b hb => .inl hb) (fun b hb => .inr hb) (hJ _)
      (evx_call H (ev_glob G H had rfl rfl) hCd (evl_cons (by first | exact ev_local (by assumption) rfl rfl rfl | exact ev_cell' (by assumption) rfl rfl rfl rfl) rfl (evl_cons (r := .int (2 ^ (rowsP n a).length)) (ev_bin H ev_int (b := .int ((rowsP n a).length : Nat)) (ev_call H (by exact ev_boot (by assumption) (by assumption) (by simp [bnames]) rfl rfl rfl) (.inl ⟨_, rfl⟩) (evl_cons (by first | exact ev_local (by assumption) rfl rfl rfl | exact ev_cell' (by assumption) rfl rfl rfl rfl) rfl evl_nil) (cl_lenSL (by omega)) rfl) (op_pow2 (by omega))) rfl evl_nil)) (c_draw G (hA'.le (by decide)) had hTX' (Int.pow_pos (by decide)) hsp hcl) (hJ _) (fun b hb => hb ▸ hTX') (fun b hb => hb ▸ hTO) (fun h x b hb => hb ▸ x.live) rfl) (.inr ⟨rfl, _, rfl⟩) rfl fun r hr => ?_
    obtain ⟨i, rfl, hi0, hi1⟩ := hr
    refine bgj_ret (hJ _) (ev_j (ev_cp H hA'.hh (cp_filter (xs := List.range (rowsP n a).length) (enc := fun (k : Nat) => .int k) (f := fun (k : Nat) => row ((rowsP n a).getD k [])) (pz := fun (k : Nat) => decide (i / 2 ^ k % 2 = 1)) (bd := fun (k : Nat) => [("k", .int k), ("number", .int i), ("rows", rowsL (rowsP n a))]) (src := .rng (rowsP n a).length) (fun _ => rfl) rfl rfl (by decide) ?_ (.rng _ (by omega)) (by simp; omega) ?_))) fun h v S j r => ⟨v, _, rfl, ⟨((List.range (rowsP n a).length).filter fun (k : Nat) => decide (i / 2 ^ k % 2 = 1)).map fun k => (rowsP n a).getD k [], ?_, ?_, sorted_pick rows_sorted _⟩, r, j⟩
    · exact ev_call H (by exact ev_boot (by assumption) (by assumption) (by simp [bnames]) rfl rfl rfl) (.inr (.inl ⟨_, rfl⟩)) (evl_cons (r := .int ((rowsP n a).length : Nat)) (ev_call H (by exact ev_boot (by assumption) (by assumption) (by simp [bnames]) rfl rfl rfl) (.inl ⟨_, rfl⟩) (evl_cons (by first | exact ev_local (by assumption) rfl rfl rfl | exact ev_cell' (by assumption) rfl rfl rfl rfl) rfl evl_nil) (cl_lenSL (by omega)) rfl) rfl evl_nil) cl_range rfl
    · intro C Y HC k hk
      have hk' : k < (rowsP n a).length := by simpa using hk
      have hp1 : (0 : Int) < 2 ^ k := Int.pow_pos (by decide)
      have hp2 : (2 : Int) ^ k < 1073741824 := by
        have h1 : (2 : Nat) ^ k ≤ 2 ^ 27 := Nat.pow_le_pow_right (by decide) (by omega)
        have h2 : ((2 ^ k : Nat) : Int) = (2 : Int) ^ k := by push_cast; rfl
        have h3 : ((2 ^ k : Nat) : Int) ≤ ((2 ^ 27 : Nat) : Int) := by exact_mod_cast h1
        rw [← h2]
        exact Int.lt_of_le_of_lt h3 (by decide)
      refine ⟨asg_nm HC rfl, sub_cons rfl, tr_cmp HC (ev_bin HC (ev_bin HC (by first | exact ev_local (by assumption) rfl rfl rfl | exact ev_cell' (by assumption) rfl rfl rfl rfl) (ev_bin HC ev_int (by first | exact ev_local (by assumption) rfl rfl rfl | exact ev_cell' (by assumption) rfl rfl rfl rfl) (op_pow2 (by omega))) (op_div hp1 hp2)) ev_int (op_mod (by decide))) ev_int op_eq rfl, ev_itemL (k := k) (l := (rowsP n a).map row) (by first | exact ev_local (by assumption) rfl rfl rfl | exact ev_cell' (by assumption) rfl rfl rfl rfl) (by first | exact ev_local (by assumption) rfl rfl rfl | exact ev_cell' (by assumption) rfl rfl rfl rfl) (by rw [List.getElem?_map]; simp [hk']) (by omega) (fun _ _ => rfl)⟩
    · show AV.list _ = AV.list (List.map row (List.map (fun k => (rowsP n a).getD k []) _))
      rw [List.map_map]; rfl
    · intro r hr
      obtain ⟨k, hk, rfl⟩ := List.mem_map.mp hr
      have hk' : k < (rowsP n a).length := by have := (List.mem_filter.mp hk).1; simpa using this
      have : (rowsP n a)[k]? = some ((rowsP n a).getD k []) := by simp [hk']
      exact mem_rowsP.mp (List.mem_of_getElem? this)

noncomputable def canP (word : Int) (p q : Entry) : Bool := decide (0 < fitsP word p.2.1 q.2.1)
noncomputable def firstsOf (word : Int) (pool : List Entry) : List Entry := pool.filter fun p => !((pool.filter (canP word p)).map encE).isEmpty

theorem c_picked (G : Gnd g mg mb) (hA : Room 9 A) {fa : Addr} (ha : mg Flaw_picked.name = some (.ref fa)) {T : Addr} (hTX : X T) {cv : Value} {cells : List Int} {spot k : Nat} (hsp : spot ≤ 900) (hcl : cells.length ≤ 1000) {pool : List Entry} (hz : pool.length ≤ 100) (hk : k ≤ 10) (hne : firstsOf k pool ≠ []) :
    ClJ prog w g A X (.ref fa) [.val (.ref T), .list (pool.map encE), .int k] (Tape prog w T cv cells spot) (· = T) (fun r => ∃ p q, p ∈ pool ∧ q ∈ pool ∧ (canP k p q = true ∨ ((k = 5 ∨ k = 6 ∨ k = 7) ∧ q = p ∧ ∃ q', canP k p q' = true)) ∧ r = .tup [encE p, encE q]) (fun X h => Tape prog w T cv cells (spot + 1) X h ∨ Tape prog w T cv cells (spot + 2) X h) := by
  have hfl := List.length_filter_le (fun p => !((pool.filter (canP k p)).map encE).isEmpty) pool
  have hfp : 0 < (firstsOf k pool).length := List.length_pos_iff.mpr hne
  have hfz : (firstsOf k pool).length ≤ 100 := Nat.le_trans hfl hz
  refine cl_defJ G (d := Flaw_picked) (by simp [recs]) ha (k := 8) (names := ["tape", "pool", "word"]) hA rfl (fun _ _ _ vs h => ?_) rfl (by decide) rfl rfl rfl tape_mv (fun X X' h h' j M e => j.imp (fun x => tape_mv X X' h h' x M e) (fun x => tape_mv X X' h h' x M e)) (fun b hb => hb ▸ hTX) fun L cd X' H hXX hMO hA' => ?_
  · match vs, h with
    | [v, u, x], _ => rfl
  · have hTO := hMO T rfl
    have hTX' := hXX T hTX
    have hJ : ∀ j, StJ (envOfC Flaw_picked.name Flaw_picked.scope L fa cd) (Tape prog w T cv cells j X') := fun j => Tape.stj (fun b hb => own_x H hb) hTO
    obtain ⟨af, haf, hCf⟩ := fn_of G (d := Flaw_fits) (by simp [recs])
    obtain ⟨ad, had, hCd⟩ := fn_of G (d := Flaw_draw) (by simp [recs])
    -- firsts
    refine bg_cp H hA'.hh (fun b hb => .inl hb) (hJ _) (out := (firstsOf k pool).map encE) (cp_filter (xs := pool) (enc := encE) (f := encE) (pz := fun p => !((pool.filter (canP k p)).map encE).isEmpty) (bd := fun p => [("one", encE p), ("pool", .list (pool.map encE)), ("word", .int k)]) (src := .list (pool.map encE)) (fun _ => rfl) rfl rfl (by decide) (by first | exact ev_local (by assumption) rfl rfl rfl | exact ev_cell' (by assumption) rfl rfl rfl rfl) (.list _) (by omega) fun C Y HC p hp => ?_) rfl rfl ?_
    · refine ⟨asg_cl HC rfl rfl, sub_cons rfl, tr_cmp HC (ev_cp HC hA'.hh (cp_filter (xs := pool) (enc := encE) (f := encE) (pz := canP k p) (bd := fun q => [("late", encE q), ("one", encE p), ("word", .int k)]) (src := .list (pool.map encE)) (fun _ => rfl) rfl rfl (by decide) (by first | exact ev_local (by assumption) rfl rfl rfl | exact ev_cell' (by assumption) rfl rfl rfl rfl) (.list _) (by omega) fun C' Y' HC' q hq => ?_)) (ev_list HC evl_nil (by simp)) (op_ne_nil hA') rfl, (by first | exact ev_local (by assumption) rfl rfl rfl | exact ev_cell' (by assumption) rfl rfl rfl rfl)⟩
      exact ⟨asg_nm HC' rfl, sub_cons rfl, tr_cmp HC' (ev_call HC' (ev_glob G HC' haf rfl rfl) hCf (evl_cons (by first | exact ev_local (by assumption) rfl rfl rfl | exact ev_cell' (by assumption) rfl rfl rfl rfl) rfl (evl_cons (ev_part (k := 0) (by first | exact ev_local (by assumption) rfl rfl rfl | exact ev_cell' (by assumption) rfl rfl rfl rfl) ev_int rfl (by decide) (fun _ _ => rfl)) rfl (evl_cons (ev_part (k := 0) (by first | exact ev_local (by assumption) rfl rfl rfl | exact ev_cell' (by assumption) rfl rfl rfl rfl) ev_int rfl (by decide) (fun _ _ => rfl)) rfl evl_nil))) (c_fits G (hA'.le (by decide)) haf) rfl) ev_int op_gt rfl, (by first | exact ev_local (by assumption) rfl rfl rfl | exact ev_cell' (by assumption) rfl rfl rfl rfl)⟩
    · -- one
      refine bgx_assign (M := fun b => b = T) (P := fun r => ∃ p ∈ firstsOf k pool, r = encE p) (J' := Tape prog w T cv cells (spot + 1) X') H (fun b hb => .inl hb) (fun b hb => .inr hb) (hJ _)
        (evx_item (hJ _) (fun b hb => hb ▸ hTX') (l := (firstsOf k pool).map encE) (by first | exact ev_local (by assumption) rfl rfl rfl | exact ev_cell' (by assumption) rfl rfl rfl rfl) (evx_call H (ev_glob G H had rfl rfl) hCd (evl_cons (by first | exact ev_local (by assumption) rfl rfl rfl | exact ev_cell' (by assumption) rfl rfl rfl rfl) rfl (evl_cons (r := .int ((firstsOf k pool).map encE).length) (ev_call H (by exact ev_boot (by assumption) (by assumption) (by simp [bnames]) rfl rfl rfl) (.inl ⟨_, rfl⟩) (evl_cons (by first | exact ev_local (by assumption) rfl rfl rfl | exact ev_cell' (by assumption) rfl rfl rfl rfl) rfl evl_nil) (cl_lenL (by rw [List.length_map]; omega)) rfl) rfl evl_nil)) (c_draw G (hA'.le (by decide)) had hTX' (by rw [List.length_map]; omega) (by omega) hcl) (hJ _) (fun b hb => hb ▸ hTX') (fun b hb => hb ▸ hTO) (fun h x b hb => hb ▸ x.live) rfl) (fun r hr => ?_) (fun _ _ _ => rfl)) (.inr ⟨rfl, _, rfl⟩) rfl fun r hr => ?_
      · obtain ⟨i, rfl, h0, h1⟩ := hr
        rw [List.length_map] at h1
        have hlt : i.toNat < (firstsOf k pool).length := by omega
        refine ⟨i.toNat, encE ((firstsOf k pool)[i.toNat]), by rw [Int.toNat_of_nonneg h0], by rw [List.getElem?_map]; simp [hlt], by omega, _, List.getElem_mem hlt, rfl⟩
      · obtain ⟨p, hp, rfl⟩ := hr
        obtain ⟨hpp, hpf⟩ := List.mem_filter.mp hp
        have hlp : (pool.filter (canP k p)) ≠ [] := by
          intro e; rw [e] at hpf; simp at hpf
        have hll := List.length_filter_le (canP k p) pool
        have hlpos : 0 < (pool.filter (canP k p)).length := List.length_pos_iff.mpr hlp
        refine bgj_if (b := decide ((k : Int) ∈ [(5 : Int), 6, 7])) (fun h ⟨_, _, e, _⟩ => nomatch e) (hJ _) (tr_j (tr_cmp H (by first | exact ev_local (by assumption) rfl rfl rfl | exact ev_cell' (by assumption) rfl rfl rfl rfl) (ev_tuple H (evl_cons ev_int rfl (evl_cons ev_int rfl (evl_cons ev_int rfl evl_nil))) (by simp)) (op_in_row (r := [5, 6, 7])) rfl)) (fun hb => ?_) fun hb => ?_
        · obtain ⟨q', hq'⟩ := List.exists_mem_of_ne_nil _ hlp
          have hk5 : k = 5 ∨ k = 6 ∨ k = 7 := by have : (k : Int) = 5 ∨ (k : Int) = 6 ∨ (k : Int) = 7 := by simpa using hb
                                                 omega
          exact bgj_ret (hJ _) (ev_j (ev_tuple H (evl_cons (by first | exact ev_local (by assumption) rfl rfl rfl | exact ev_cell' (by assumption) rfl rfl rfl rfl) rfl (evl_cons (by first | exact ev_local (by assumption) rfl rfl rfl | exact ev_cell' (by assumption) rfl rfl rfl rfl) rfl evl_nil)) (by simp))) fun h v S j r => ⟨v, _, rfl, ⟨p, p, hpp, hpp, .inr ⟨hk5, rfl, q', (List.mem_filter.mp hq').2⟩, rfl⟩, r, .inl j⟩
        · refine bg_cp H hA'.hh (fun b hb => .inl hb) (hJ _) (out := (pool.filter (canP k p)).map encE) (cp_filter (xs := pool) (enc := encE) (f := encE) (pz := canP k p) (bd := fun q => [("late", encE q), ("one", encE p), ("word", .int k)]) (src := .list (pool.map encE)) (fun _ => rfl) rfl rfl (by decide) (by first | exact ev_local (by assumption) rfl rfl rfl | exact ev_cell' (by assumption) rfl rfl rfl rfl) (.list _) (by omega) fun C Y HC q hq => ?_) rfl rfl ?_
          · exact ⟨asg_nm HC rfl, sub_cons rfl, tr_cmp HC (ev_call HC (ev_glob G HC haf rfl rfl) hCf (evl_cons (by first | exact ev_local (by assumption) rfl rfl rfl | exact ev_cell' (by assumption) rfl rfl rfl rfl) rfl (evl_cons (ev_part (k := 0) (by first | exact ev_local (by assumption) rfl rfl rfl | exact ev_cell' (by assumption) rfl rfl rfl rfl) ev_int rfl (by decide) (fun _ _ => rfl)) rfl (evl_cons (ev_part (k := 0) (by first | exact ev_local (by assumption) rfl rfl rfl | exact ev_cell' (by assumption) rfl rfl rfl rfl) ev_int rfl (by decide) (fun _ _ => rfl)) rfl evl_nil))) (c_fits G (hA'.le (by decide)) haf) rfl) ev_int op_gt rfl, (by first | exact ev_local (by assumption) rfl rfl rfl | exact ev_cell' (by assumption) rfl rfl rfl rfl)⟩
          · refine bgx_ret (M := fun b => b = T) (fun b hb => .inr hb) (evx_tup2 (P := fun r => ∃ q ∈ pool.filter (canP k p), r = encE q) (J' := Tape prog w T cv cells (spot + 2) X') H (hJ _) (hJ _) (fun b hb => hb ▸ hTX') (by first | exact ev_local (by assumption) rfl rfl rfl | exact ev_cell' (by assumption) rfl rfl rfl rfl) (evx_item (hJ _) (fun b hb => hb ▸ hTX') (l := (pool.filter (canP k p)).map encE) (by first | exact ev_local (by assumption) rfl rfl rfl | exact ev_cell' (by assumption) rfl rfl rfl rfl) (evx_call H (ev_glob G H had rfl rfl) hCd (evl_cons (by first | exact ev_local (by assumption) rfl rfl rfl | exact ev_cell' (by assumption) rfl rfl rfl rfl) rfl (evl_cons (r := .int ((pool.filter (canP k p)).map encE).length) (ev_call H (by exact ev_boot (by assumption) (by assumption) (by simp [bnames]) rfl rfl rfl) (.inl ⟨_, rfl⟩) (evl_cons (by first | exact ev_local (by assumption) rfl rfl rfl | exact ev_cell' (by assumption) rfl rfl rfl rfl) rfl evl_nil) (cl_lenL (by rw [List.length_map]; omega)) rfl) rfl evl_nil)) (c_draw G (hA'.le (by decide)) had hTX' (by rw [List.length_map]; omega) (by omega) hcl) (hJ _) (fun b hb => hb ▸ hTX') (fun b hb => hb ▸ hTO) (fun h x b hb => hb ▸ x.live) rfl) (fun r hr => ?_) (fun _ _ _ => rfl)) (fun _ => rfl)) fun h v r S j hp r' => ?_
            · obtain ⟨i, rfl, h0, h1⟩ := hr
              rw [List.length_map] at h1
              have hlt : i.toNat < (pool.filter (canP k p)).length := by omega
              exact ⟨i.toNat, encE ((pool.filter (canP k p))[i.toNat]), by rw [Int.toNat_of_nonneg h0], by rw [List.getElem?_map]; simp [hlt], by omega, _, List.getElem_mem hlt, rfl⟩
            · obtain ⟨b, ⟨q, hq, rfl⟩, rfl⟩ := hp
              obtain ⟨hq1, hq2⟩ := List.mem_filter.mp hq
              exact ⟨v, _, rfl, ⟨p, q, hpp, hq1, .inl hq2, rfl⟩, r', .inr j⟩
end
end Mine
end

section
open PySem PySem.W PyProof.Rows
set_option Elab.async false
set_option maxRecDepth 100000
set_option linter.unusedVariables false
namespace Mine
section
variable {prog : Program} {w : World} {g : Heap} {mg mb : Str → Option Value} {A : Around} {env : Env} {X X' Y Z M : Addr → Prop} {σ σ' : List (Str × AV)} {E : Value → Shared → Prop} {J J' K : Heap → Prop} {R : Flow → Heap → Prop}

theorem bg_ex {ι : Type} {Jx : ι → Heap → Prop} {ss : List Stmt} (h : ∀ i, Bg prog w g A env X Z σ (Jx i) ss R) : Bg prog w g A env X Z σ (fun h => ∃ i, Jx i h) ss R := fun s S ⟨i, j⟩ => h i s S j
theorem bg_prop {p : Prop} {ss : List Stmt} (h : p → Bg prog w g A env X Z σ J ss R) : Bg prog w g A env X Z σ (fun h => p ∧ J h) ss R := fun s S ⟨hp, j⟩ => h hp s S j

theorem Fm.sub {D : Addr} (H : Fm g env X) (hDO : ¬ Own env D) : Fm g env (fun b => X b ∧ b ≠ D) :=
  ⟨H.fk, H.gl, H.bl, ⟨H.xl, fun e => hDO (.inl e.symm)⟩, fun n c hc => ⟨⟨(H.xc n c hc).1, fun e => hDO (.inr ⟨n, e ▸ hc⟩)⟩, (H.xc n c hc).2⟩, H.inj, fun b hb => H.xg b hb.1⟩

/- list(x[lo:hi]) of a list -/
theorem ev_sliceL {value : Expr} {lower upper : Option Expr} {lo hi : Option Int} {p pos l} (H : Fm g env X) (hv : Ev prog w g A env X σ value (.list l)) (hl : EvP prog w g A env X σ lower lo) (hu : EvP prog w g A env X σ upper hi) (hz : l.length ≤ 100000) :
    Ev prog w g A env X σ (.Subscript value (.Slice lower upper none p) pos) (.list (cut lo hi l)) := fun s S => by
  refine Subscript_ (wpAny_mono (hv s S) (fun o s₁ ⟨k₁, r₁⟩ => wpAny_Slice (wpAny_mono (evp_part hl s₁ (S.ks k₁)) (fun vl s₂ ⟨k₂, pl⟩ => wpAny_mono (evp_part hu s₂ ((S.ks k₁).ks k₂)) (fun vu s₃ ⟨k₃, pu⟩ => ?_) fun _ _ e => e.elim) fun _ _ e => e.elim)) fun _ _ e => e.elim)
  rw [evalPart_none]
  refine wpAny_pure ?_
  have kk := keeps_push s₃ { cls := .type "slice", data := .fields #[vl, vu, .none] }
  have S₄ := (((S.ks k₁).ks k₂).ks k₃).ks kk
  have kA := keeps_trans (keeps_trans (keeps_trans k₁ k₂) k₃) kk
  have r₄ := rel_ks (rel_ks (rel_ks r₁ k₂) k₃) kk
  simp only [Rel] at r₄
  obtain ⟨a, vs, n, rfl, ha, ho, q⟩ := r₄
  have hlen := relL_length q
  refine tail_any (ops := [.ref s₃.heap.objs.size, .ref a]) (isList_of ho).typeIs slot_list_getitem.lookup (wpAny_getItem_list_slice (isList_of ho) (Heap.IsSliceOf.new ..) pl pu .none (by decide) ?_ (by rw [List.size_toArray, sizeLine_eq]; omega)) rfl
  rw [kms_pick_eq]
  obtain ⟨k5, r5⟩ := new_list (vs := (kms_pick vs.toArray.toList lo hi).toArray) (l := cut lo hi l) (live_of H S₄) (by simpa [kms_pick, cut] using relL_cut (lo := lo) (hi := hi) q)
  exact ⟨keeps_trans kA k5, r5⟩
theorem cl_listL {l : List AV} (hz : l.length ≤ 100000) : Cl prog w g A X (.type "list") [.list l] (.list l) := fun s vs kg hX r => by
  match vs, r with
  | [v], r =>
    simp only [RelL, Rel] at r
    obtain ⟨⟨a, vs, n, rfl, _, ho, q⟩, _⟩ := r
    have e := relL_length q
    refine call_list_seq a (.inl rfl) ho rfl rfl (fun h' c hk hn => ?_) (by rw [List.size_toArray, sizeLine_eq]; omega)
    have k1 : Keeps s { s with heap := h' } := ⟨h', s.toks, rfl, hk⟩
    refine ⟨k1, ?_⟩
    simp only [Rel]
    exact ⟨_, vs, c, rfl, fresh_off hX (Nat.le_refl _), hn, relL_ks q k1⟩
  | [], r => simp only [RelL] at r
  | _ :: _ :: _, r => simp only [RelL] at r; exact r.2.elim

/-- tape = {'cells': .., 'spot': 0} -/
theorem bg_tape {x : Str} {p pos dp : Pos} {ve vs : Expr} {kk kk' : Nat} {q q' : Pos} {rest : List Stmt} {cells : List Int} (H : Fm g env X) (hZ : ∀ b, Own env b → Z b) (hk : env.kindOf x = some .local ∨ env.kindOf x = some .cell ∧ ∃ c, env.cells.lookup x = some c)
    (hve : ∀ Y, Fm g env Y → Ev prog w g A env Y σ ve (.list (intsA cells))) (hvs : ∀ Y, Ev prog w g A env Y σ vs (.int ((0 : Nat) : Int))) (hσ : True)
    (hs : swapsWith (.Dict [some (.Constant (.str "cells") kk q), some (.Constant (.str "spot") kk' q')] [ve, vs] dp) (some (.Name x p)) pos.line env = pure false)
    (h : ∀ T cv, ¬ X T → Fm g env (fun b => X b ∨ b = T) → Bg prog w g A env (fun b => X b ∨ b = T) (fun b => Z b ∨ b = T) ((x, .val (.ref T)) :: σ) (Tape prog w T cv cells 0 (fun b => X b ∨ b = T)) rest R) :
    Bg prog w g A env X Z σ (fun _ => True) (.Assign [.Name x p] (.Dict [some (.Constant (.str "cells") kk q), some (.Constant (.str "spot") kk' q')] [ve, vs] dp) pos :: rest) R := fun s S _ => by
  refine wpAny_execs_cons (wpAny_Assign_Name (wpAny_Dict_walk (knd := strKind prog w) rfl rfl (by simp) (by simp) ?_) hs)
  have kd := keeps_push s { cls := .type "dict", data := .dict #[] }
  have newT : (s.heap.push { cls := .type "dict", data := .dict #[] }).DictOf (strKind prog w) s.heap.objs.size [] := Heap.DictOf.new s.heap
  generalize hT : s.heap.objs.size = T at kd newT ⊢
  have fr : s.heap.get? T = none := Heap.get?_none_of_le (Nat.le_of_eq hT)
  have od : (s.heap.push { cls := .type "dict", data := .dict #[] }).get? T = some { cls := .type "dict", data := .dict #[] } := hT ▸ Heap.get?_push_size _ rfl
  generalize hs1 : ({ s with heap := s.heap.push { cls := .type "dict", data := .dict #[] } } : Shared) = s₁ at kd ⊢
  have od : s₁.heap.get? T = some { cls := .type "dict", data := .dict #[] } := hs1 ▸ od
  have newT : s₁.heap.DictOf (strKind prog w) T [] := hs1 ▸ newT
  have hTX : ¬ X T := fun hb => by obtain ⟨o, ho⟩ := S.lv _ hb; rw [fr] at ho; cases ho
  have hTO : ¬ Own env T := fun hb => hTX (own_x H hb)
  have M1 : Move X s.heap (fun b => X b ∨ b = T) s₁.heap := fun b o hb e => ⟨fun q => q.elim hb fun q => (by rw [q, fr] at e; cases e), keeps_kp kd b o e⟩
  have H₁ : Fm g env (fun b => X b ∨ b = T) := H.mono (fun b hb => .inl hb) fun b hb => hb.elim (H.xg b) fun q => q ▸ none_of S.kg fr
  have S₁ := S.move M1 (S.kg.trans (keeps_kp kd)) (fun b o _ e => keeps_kp kd b o e) fun b hb => hb.elim (fun q => let ⟨o, ho⟩ := S.lv b q; ⟨o, keeps_kp kd b o ho⟩) fun q => ⟨_, q ▸ od⟩
  refine pairTrees_cons_walk (wpAny_mono ((ev_str (k := kk) (pos := q) (i := "cells")) s₁ S₁) (fun kv s₂ ⟨k₂, r₂⟩ => wpAny_mono (hve _ H₁ s₂ (S₁.ks k₂)) (fun cv s₃ ⟨k₃, r₃⟩ => pairTrees_cons_walk (wpAny_mono ((ev_str (k := kk') (pos := q') (i := "spot")) s₃ ((S₁.ks k₂).ks k₃)) (fun kv' s₄ ⟨k₄, r₄⟩ => wpAny_mono (hvs _ s₄ (((S₁.ks k₂).ks k₃).ks k₄)) (fun sv s₅ ⟨k₅, r₅⟩ => pairTrees_nil_walk ?_) fun _ _ e => e.elim) fun _ _ e => e.elim)) fun _ _ e => e.elim) fun _ _ e => e.elim)
  simp only [Rel] at r₂ r₄ r₅
  obtain ⟨t2, rfl⟩ := r₂
  obtain ⟨t4, rfl⟩ := r₄
  obtain ⟨t5, rfl⟩ := r₅
  have k15 := keeps_trans (keeps_trans (keeps_trans k₂ k₃) k₄) k₅
  have S₅ := S₁.ks k15
  refine ⟨[(("cells" : Str), cv), (("spot" : Str), .int ((0 : Nat) : Int) t5)], ⟨strKind_is prog w _ t2, rfl, strKind_is prog w _ t4, rfl, trivial⟩, ?_, fun h' hd' hs' => ?_⟩
  · obtain ⟨o, es, ep, ho, r⟩ := newT
    exact ⟨o, es, ep, keeps_kp k15 _ _ ho, r⟩
  have kx : KeepsX (· = T) s₅ { s₅ with heap := h', toks := s₅.toks + [(Value.str "cells" t2, cv), (Value.str "spot" t4, Value.int ((0 : Nat) : Int) t5)].length } := ⟨h', _, rfl, fun b o hb e => hs'.extBut b o hb e⟩
  have S₆ : St g env (fun b => X b ∨ b = T) σ h' := S₅.kx (s' := { s₅ with heap := h', toks := _ }) H₁ kx fun b hb => ⟨.inr hb, hb ▸ hTO, let ⟨o, _, _, ho, _⟩ := hd'; ⟨o, hb ▸ ho⟩⟩
  have tp : Tape prog w T cv cells 0 (fun b => X b ∨ b = T) h' := ⟨t5, hd', (rel_ks (rel_ks r₃ k₄) k₅).move (kx.kp.mono (Z' := fun b => X b ∨ b = T) fun b hb => .inr hb).move⟩
  refine store_name H₁ (s := { s₅ with heap := h', toks := _ }) S₆ (av := .val (.ref T)) (by simp only [Rel]) hk fun s₇ k₇ S₇ => ?_
  have tp' := Tape.stj (prog := prog) (w := w) (env := env) (X := fun b => X b ∨ b = T) (fun b hb => .inl (own_x H hb)) hTO _ _ k₇.kp tp
  refine wpAny_mono (h T cv hTX H₁ s₇ S₇ tp') (fun f s₈ ⟨k₈, z⟩ => ⟨?_, z⟩) fun _ _ e => e
  obtain ⟨h1, t1, rfl, q1⟩ := kd
  obtain ⟨h5, t5', rfl, q5⟩ := k15
  obtain ⟨h7, t7, rfl, q7⟩ := k₇
  obtain ⟨h8, t8, rfl, q8⟩ := k₈
  have q6 := kx.kp
  exact ⟨h8, t8, rfl, fun b o hb e => q8 b o (fun z => z.elim hb fun z => by rw [z, fr] at e; cases e) (q7 b o (fun z => hb (hZ b z)) (q6 b o (fun z => by rw [z, fr] at e; cases e) (q5 b o (q1 b o e))))⟩

/-- x.append(e), the new item by its value -/
theorem bg_append_the {o e : Expr} {ap p pos : Pos} {rest : List Stmt} {D : Addr} {l : List AV} {r : AV} (H : Fm g env X) (hDX : X D) (hDO : ¬ Own env D) (hZD : Z D) (hJ : StJ env J) (hJD : ∀ h h', J h → KpX (· = D) h h' → J h') (hz : l.length ≤ 100000)
    (ho : Ev prog w g A env X σ o (.val (.ref D))) (he : Ev prog w g A env X σ e r) (hi : interactive env = false) (hsw : swapsWith (.Call (.Attribute o "append" ap) [e] [] p) none pos.line env = pure false)
    (b1 : attributeBase o "append" env (eval o env) = eval o env) (l1 : (ap.endLine == p.line) = true) (t1 : backTo p (starEach [e] env) = [(false, eval e env)])
    (h : ∀ u, Bg prog w g A env X Z σ (fun h => J h ∧ Acc X h D (l ++ [.the u r])) rest R) : Bg prog w g A env X Z σ (fun h => J h ∧ Acc X h D l) (.Expr (.Call (.Attribute o "append" ap) [e] [] p) pos :: rest) R := fun s S j => by
  have hJA : StJ env (fun h => J h ∧ Acc X h D l) := stj_and hJ (stj_acc (fun b hb => own_x H hb) hDO)
  refine wpAny_execs_cons (wpAny_Expr_any (wpAny_Call_append b1 (by rw [t1]; rfl) l1 t1 (wpAny_mono (ho s S) (fun v s₁ ⟨k₁, r₁⟩ => ?_) fun _ _ e => e)) hi hsw)
  simp only [Rel] at r₁
  subst r₁
  have j₁ := hJA.ks j k₁
  obtain ⟨vs, ⟨n, hv⟩, q⟩ := id j₁.2
  refine ⟨D, vs.toArray, rfl, ⟨_, n, hv, rfl, rfl, rfl⟩, wpAny_mono (he s₁ (S.ks k₁)) (fun y s₂ ⟨k₂, r₂⟩ => ?_) fun _ _ e => e⟩
  have j₂ := hJA.ks j₁ k₂
  have S₂ := (S.ks k₁).ks k₂
  refine acc_push (a := .the y r) hDX j₂.2 (by simp only [Rel]; exact ⟨trivial, r₂⟩) hz fun s₃ k₃ o₃ acc₃ => ?_
  have S₃ := S₂.kx H k₃ fun b hb => ⟨hb ▸ hDX, hb ▸ hDO, hb ▸ o₃⟩
  exact wpAny_mono (h y s₃ S₃ ⟨hJD _ _ j₂.1 k₃.kp, acc₃⟩) (fun f s₄ ⟨k₄, q⟩ => ⟨((keeps_x (keeps_trans k₁ k₂)).trans (k₃.mono fun b hb => hb ▸ hZD)).trans k₄, q⟩) fun _ _ e => e

/-- a, b = e (impure) -/
theorem bgx_pair {x y : Str} {px py tp : Pos} {k : Nat} {Q : AV → AV → Prop} {value : Expr} {pos : Pos} {rest : List Stmt} (H : Fm g env X) (hh : A.handled = none) (hZ : ∀ b, Own env b → Z b) (hMZ : ∀ b, M b → Z b) (hJ' : StJ env J')
    (hx : env.kindOf x = some .local ∨ env.kindOf x = some .cell ∧ ∃ c, env.cells.lookup x = some c) (hy : env.kindOf y = some .local ∨ env.kindOf y = some .cell ∧ ∃ c, env.cells.lookup y = some c)
    (he : EvX prog w g A env X M σ J value (fun r => ∃ a b, Q a b ∧ r = .tup [a, b]) J') (hs : swapsWithSole [.Tuple [.Name x px, .Name y py] k tp] value pos.line env = pure false) (hw : swappedStores [.Tuple [.Name x px, .Name y py] k tp] value env = pure none)
    (h : ∀ a b, Q a b → Bg prog w g A env X Z ((y, b) :: (x, a) :: σ) J' rest R) : Bg prog w g A env X Z σ J (.Assign [.Tuple [.Name x px, .Name y py] k tp] value pos :: rest) R := fun s S j => by
  refine wpAny_execs_cons (Assign_Tuple (wpAny_mono (he s S j) (fun v s₁ ⟨k₁, S₁, j₁, r, ⟨a, b, hq, er⟩, r₁⟩ => ?_) fun _ _ e => e) hs hw)
  subst er
  simp only [Rel] at r₁
  obtain ⟨t, vs, n, rfl, ht, hot, q⟩ := r₁
  match vs, q with
  | [va, vb], q =>
    simp only [RelL] at q
    refine assign_Tuple_tuple hh (isTup_of hot) (by rfl) (by rfl) fun h' he => ?_
    have kk : Keeps s₁ { s₁ with heap := h' } := ⟨h', s₁.toks, rfl, fun b o e => he b o (Nat.ne_of_lt (Heap.lt_size e)) e⟩
    show wpAny (model prog w) A (assignInOrder [assign (.Name x px) env, assign (.Name y py) env] [va, vb]) _ _ _
    refine assignInOrder_cons (wpAny_assign_Name (store_name' H (S₁.ks kk) (rel_ks q.1 kk) hx fun s₂ k₂ S₂ => ?_))
    refine assignInOrder_cons (wpAny_assign_Name (store_name' H S₂ (av := b) ((rel_ks q.2.1 kk).move (k₂.kp.mono fun b hb => own_x H (slot_own hb)).move) hy fun s₃ k₃ S₃ => ?_))
    have kO : KeepsX (Own env) s₁ s₃ := ((keeps_x kk).trans (k₂.mono fun b hb => slot_own hb)).trans (k₃.mono fun b hb => slot_own hb)
    exact assignInOrder_nil (wpAny_mono (h a b hq s₃ S₃ (hJ' _ _ kO.kp j₁)) (fun f s₄ ⟨k₄, q⟩ => ⟨((k₁.mono hMZ).trans (kO.mono hZ)).trans k₄, q⟩) fun _ _ e => e)
  | [], q => simp only [RelL] at q
  | [_], q => simp only [RelL] at q; exact q.2.elim
  | _ :: _ :: _ :: _, q => simp only [RelL] at q; exact q.2.2.elim
end
end Mine
end

section
open PySem PySem.W PyProof.Rows
set_option Elab.async false
set_option maxRecDepth 100000
set_option linter.unusedVariables false
namespace Mine
section
variable {prog : Program} {w : World} {g : Heap} {mg mb : Str → Option Value} {A : Around} {env : Env} {X X' Y Z M : Addr → Prop} {σ σ' : List (Str × AV)} {E : Value → Shared → Prop} {J J' K : Heap → Prop} {R : Flow → Heap → Prop}

theorem evx_mono {e : Expr} {P Q : AV → Prop} {J'' : Heap → Prop} (h : EvX prog w g A env X M σ J e P J') (hP : ∀ r, P r → Q r) (hJ : ∀ h, J' h → J'' h) : EvX prog w g A env X M σ J e Q J'' := fun s S j =>
  wpAny_mono (h s S j) (fun v s' ⟨k, S', j', r, hp, q⟩ => ⟨k, S', hJ _ j', r, hP _ hp, q⟩) fun _ _ e => e

/-- x, y = (e, []) -/
theorem bg_n_pool {x y : Str} {px py tp tp2 lp : Pos} {k kk : Nat} {e1 : Expr} {pos : Pos} {rest : List Stmt} {P : AV → Prop} {JX : (Addr → Prop) → Heap → Prop} (H : Fm g env X) (hh : A.handled = none) (hZ : ∀ b, Own env b → Z b) (hMZ : ∀ b, M b → Z b) (hMX : ∀ b, M b → X b) (hMO : ∀ b, M b → ¬ Own env b)
    (hmv : ∀ (X X' : Addr → Prop) h h', JX X h → Move X h X' h' → (∀ b o, M b → h.get? b = some o → h'.get? b = some o) → JX X' h')
    (hx : env.kindOf x = some .local ∨ env.kindOf x = some .cell ∧ ∃ c, env.cells.lookup x = some c) (hy : env.kindOf y = some .local ∨ env.kindOf y = some .cell ∧ ∃ c, env.cells.lookup y = some c)
    (he : EvX prog w g A env X M σ J e1 P (JX X)) (hst : ∀ pos, backTo pos (starEach [e1, .List [] lp] env) = [(false, eval e1 env), (false, eval (.List [] lp) env)])
    (hs : swapsWithSole [.Tuple [.Name x px, .Name y py] k tp] (.Tuple [e1, .List [] lp] kk tp2) pos.line env = pure false) (hw : swappedStores [.Tuple [.Name x px, .Name y py] k tp] (.Tuple [e1, .List [] lp] kk tp2) env = pure none)
    (h : ∀ r D, P r → ¬ X D → Fm g env (fun b => X b ∨ b = D) → Bg prog w g A env (fun b => X b ∨ b = D) (fun b => Z b ∨ b = D) ((y, .val (.ref D)) :: (x, r) :: σ) (fun h => JX (fun b => X b ∨ b = D) h ∧ Acc (fun b => X b ∨ b = D) h D []) rest R) :
    Bg prog w g A env X Z σ J (.Assign [.Tuple [.Name x px, .Name y py] k tp] (.Tuple [e1, .List [] lp] kk tp2) pos :: rest) R := fun s S j => by
  refine wpAny_execs_cons (Assign_Tuple ?_ hs hw)
  show wpAny (model prog w) A (do standAt tp2; newTuple (← spliced (backTo tp2 (starEach [e1, .List [] lp] env)))) _ _ s
  rw [hst]
  refine wpAny_bind (wpAny_standAt (wpAny_bind (Calls.spliced_cons (wpAny_mono (he s S j) (fun v s₁ ⟨k₁, S₁, j₁, r, hp, r₁⟩ => Calls.spliced_cons (list_nil (Calls.spliced_nil ?_))) fun _ _ e => e.elim))))
  have kd := keeps_push s₁ { cls := .type "list", data := .seq #[] }
  generalize hd : s₁.heap.objs.size = D at kd ⊢
  have fr : s₁.heap.get? D = none := Heap.get?_none_of_le (Nat.le_of_eq hd)
  have od : (s₁.heap.push { cls := .type "list", data := .seq #[] }).get? D = some (seqObj "list" #[] 0) := hd ▸ Heap.get?_push_size _ rfl
  generalize hs1 : ({ s₁ with heap := s₁.heap.push { cls := .type "list", data := .seq #[] } } : Shared) = s₂ at kd ⊢
  have od : s₂.heap.get? D = some (seqObj "list" #[] 0) := hs1 ▸ od
  have hDX : ¬ X D := fun hb => by obtain ⟨o, ho⟩ := S₁.lv _ hb; rw [fr] at ho; cases ho
  have hDO : ¬ Own env D := fun hb => hDX (own_x H hb)
  have M1 : Move X s₁.heap (fun b => X b ∨ b = D) s₂.heap := fun b o hb e => ⟨fun q => q.elim hb fun q => (by rw [q, fr] at e; cases e), keeps_kp kd b o e⟩
  have H₁ : Fm g env (fun b => X b ∨ b = D) := H.mono (fun b hb => .inl hb) fun b hb => hb.elim (H.xg b) fun q => q ▸ none_of S₁.kg fr
  have S₂ := S₁.move M1 (S₁.kg.trans (keeps_kp kd)) (fun b o _ e => keeps_kp kd b o e) fun b hb => hb.elim (fun q => let ⟨o, ho⟩ := S₁.lv b q; ⟨o, keeps_kp kd b o ho⟩) fun q => ⟨_, q ▸ od⟩
  have j₂ := hmv _ _ _ _ j₁ M1 fun b o _ e => keeps_kp kd b o e
  have r₂ := r₁.move M1
  refine wpAny_newTuple ?_ (by rw [sizeLine_eq]; simp)
  have kt := keeps_push s₂ { cls := .type "tuple", data := .seq [v, Value.ref D].toArray }
  have ot : (s₂.heap.push { cls := .type "tuple", data := .seq [v, Value.ref D].toArray }).get? s₂.heap.objs.size = some (seqObj "tuple" [v, Value.ref D].toArray 0) := Heap.get?_push_size _ rfl
  generalize hs2 : ({ s₂ with heap := s₂.heap.push { cls := .type "tuple", data := .seq [v, Value.ref D].toArray } } : Shared) = s₃ at kt ⊢
  have ot : s₃.heap.get? s₂.heap.objs.size = some (seqObj "tuple" [v, Value.ref D].toArray 0) := hs2 ▸ ot
  refine assign_Tuple_tuple hh (isTup_of ot) (by rfl) (by rfl) fun h' he => ?_
  have kk : Keeps s₃ { s₃ with heap := h' } := ⟨h', s₃.toks, rfl, fun b o e => he b o (Nat.ne_of_lt (Heap.lt_size e)) e⟩
  have k24 := keeps_trans kt kk
  show wpAny (model prog w) A (assignInOrder [assign (.Name x px) env, assign (.Name y py) env] [v, .ref D]) _ _ _
  refine assignInOrder_cons (wpAny_assign_Name (store_name' H₁ (S₂.ks k24) (rel_ks r₂ k24) hx fun s₅ k₅ S₅ => ?_))
  refine assignInOrder_cons (wpAny_assign_Name (store_name' H₁ S₅ (av := .val (.ref D)) (by simp only [Rel]) hy fun s₆ k₆ S₆ => ?_))
  have kO : KeepsX (Own env) s₂ s₆ := ((keeps_x k24).trans (k₅.mono fun b hb => slot_own hb)).trans (k₆.mono fun b hb => slot_own hb)
  have MO : Move (fun b => X b ∨ b = D) s₂.heap (fun b => X b ∨ b = D) s₆.heap := (kO.kp.mono (Z' := fun b => X b ∨ b = D) fun b hb => .inl (own_x H hb)).move
  have j₆ := hmv _ _ _ _ j₂ MO fun b o hb e => kO.kp b o (hMO b hb) e
  have acc : Acc (fun b => X b ∨ b = D) s₆.heap D [] := ⟨[], ⟨0, kO.kp _ _ hDO od⟩, by simp only [RelL]⟩
  refine assignInOrder_nil (wpAny_mono (h r D hp hDX H₁ s₆ S₆ ⟨j₆, acc⟩) (fun f s₇ ⟨k₇, q⟩ => ⟨?_, q⟩) fun _ _ e => e)
  have k02 : KeepsX Z s s₂ := (k₁.mono hMZ).trans (keeps_x kd)
  obtain ⟨h1, t1, rfl, q1⟩ := k₁
  obtain ⟨h2, t2, rfl, q2⟩ := kd
  obtain ⟨h6, t6, rfl, q6⟩ := kO
  obtain ⟨h7, t7, rfl, q7⟩ := k₇
  refine ⟨h7, t7, rfl, fun b o hb e => ?_⟩
  have e1 := q1 b o (fun z => hb (hMZ b z)) e
  exact q7 b o (fun z => z.elim hb fun z => by rw [z] at e1; exact absurd (e1.symm.trans fr) (by simp)) (q6 b o (fun z => hb (hZ b z)) (q2 b o e1))

theorem bg_forX {α : Type} {Q : List α → Prop} {enc : α → AV} {x : Str} {px pos : Pos} {iter : Expr} {body rest : List Stmt} {σf : Nat → List (Str × AV)} {Jf : (Addr → Prop) → Nat → Heap → Prop} {Mut : Addr → Prop}
    (H : Fm g env X) (hh : A.handled = none) (hs : ∀ x, foldedSetIterable iter env x = pure x) (hit : EvX prog w g A env X M σ J iter (fun r => ∃ xs, Q xs ∧ Iters r (xs.map enc)) (Jf X 0)) (hMZ : ∀ b, M b → Z b) (hx : env.kindOf x = some .local ∨ env.kindOf x = some .cell ∧ ∃ c, env.cells.lookup x = some c)
    (hZ : ∀ b, Own env b → Z b) (hZX : ∀ b, Z b → X b) (hMX : ∀ b, Mut b → X b) (hMO : ∀ b, Mut b → ¬ Own env b)
    (hmv : ∀ (X X' : Addr → Prop) k h h', Jf X k h → Move X h X' h' → (∀ b o, Mut b → h.get? b = some o → h'.get? b = some o) → Jf X' k h')
    (h0 : ∀ y, (σf 0).lookup y = none ∨ (σf 0).lookup y = σ.lookup y)
    (hb : ∀ I xs, Q xs → ¬ X I → Fm g env (fun b => X b ∨ b = I) → ∀ k a, xs[k]? = some a → Bg prog w g A env (fun b => X b ∨ b = I) Z ((x, enc a) :: σf k) (Jf (fun b => X b ∨ b = I) k) body (fun f h => f = .next ∧ St g env (fun b => X b ∨ b = I) (σf (k + 1)) h ∧ Jf (fun b => X b ∨ b = I) (k + 1) h))
    (hr : ∀ xs, Q xs → Bg prog w g A env X Z (σf xs.length) (Jf X xs.length) rest R) : Bg prog w g A env X Z σ J (.For (.Name x px) iter body [] pos :: rest) R := fun s S j => by
  refine wpAny_execs_cons (wpAny_For (wpAny_mono (hit s S j) (fun xv s₁ ⟨kM, S₁, j₁, r, ⟨xs, hq, hsrc⟩, r₁⟩ => wpAny_mono (iter_src (A' := A) hh hsrc r₁) (fun it s₂ ⟨k₂, e₂, it₂, oI⟩ => ?_) fun _ _ e => e.elim) fun _ _ e => e.elim) hs)
  subst e₂
  generalize hI : s₁.heap.objs.size = I at it₂ oI ⊢
  have fr : s₁.heap.get? I = none := Heap.get?_none_of_le (Nat.le_of_eq hI)
  have hIX : ¬ X I := fun hb => by obtain ⟨o, ho⟩ := S₁.lv _ hb; rw [fr] at ho; cases ho
  have hIO : ¬ Own env I := fun hb => hIX (own_x H hb)
  have Mv : Move X s₁.heap (fun b => X b ∨ b = I) s₂.heap := fun b o hb e => ⟨fun q => q.elim hb fun q => (by rw [q, fr] at e; cases e), keeps_kp k₂ b o e⟩
  have S₂ : St g env (fun b => X b ∨ b = I) (σf 0) s₂.heap := (S₁.sub h0).move Mv (S₁.kg.trans (keeps_kp k₂)) (fun b o _ e => keeps_kp k₂ b o e) fun b hb => hb.elim (fun q => let ⟨o, ho⟩ := S₁.lv b q; ⟨o, keeps_kp k₂ b o ho⟩) fun q => q ▸ oI
  have H₂ : Fm g env (fun b => X b ∨ b = I) := H.mono (fun b hb => .inl hb) fun b hb => hb.elim (H.xg b) fun q => q ▸ none_of S₁.kg fr
  have j₂ : Jf (fun b => X b ∨ b = I) 0 s₂.heap := hmv _ _ _ _ _ j₁ Mv fun b o _ e => keeps_kp k₂ b o e
  refine codeAny_mono (codeAny_forLoop (R := fun r s' => r = .ok .next ∧ KeepsX (fun b => Z b ∨ b = I) s₂ s' ∧ St g env X (σf xs.length) s'.heap ∧ Jf X xs.length s'.heap)
    (fun n s' => ∃ k, n = xs.length - k ∧ k ≤ xs.length ∧ KeepsX (fun b => Z b ∨ b = I) s₂ s' ∧ St g env (fun b => X b ∨ b = I) (σf k) s'.heap ∧ IterAt prog w A (fun b => X b ∨ b = I) s'.heap I (xs.map enc) k ∧ Jf (fun b => X b ∨ b = I) k s'.heap)
    (fun n s₃ hI => ?_) xs.length ⟨0, rfl, Nat.zero_le _, .refl _ _, S₂, it₂, j₂⟩) fun r s₃ ⟨er, k₃, S₃, j₃⟩ => ?_
  · obtain ⟨k, rfl, hk, kk, S₃, it₃, j₃⟩ := hI
    refine iter_next it₃ (.inr rfl) (by simpa using hk) (fun a v s₄ ha k₄ r₄ it₄ => ?_) fun s₄ he k₄ => ?_
    · rw [List.getElem?_map] at ha
      obtain ⟨y, hy, rfl⟩ := Option.map_eq_some_iff.mp ha
      have hlt : k < xs.length := (List.getElem?_eq_some_iff.mp hy).1
      have S₄ : St g env (fun b => X b ∨ b = I) (σf k) s₄.heap := S₃.kx H₂ k₄ fun b hb => ⟨.inr hb, hb ▸ hIO, let ⟨o, ho, _⟩ := it₄.ok; ⟨o, hb ▸ ho⟩⟩
      have j₄ : Jf (fun b => X b ∨ b = I) k s₄.heap := hmv _ _ _ _ _ j₃ (k₄.kp.mono (Z' := fun b => X b ∨ b = I) fun b hb => .inr hb).move fun b o hm e => k₄.kp b o (fun q => hIX (q ▸ hMX b hm)) e
      refine wpAny_assign_Name (store_name' H₂ S₄ r₄ hx fun s₅ k₅ S₅ => ?_)
      have j₅ : Jf (fun b => X b ∨ b = I) k s₅.heap := hmv _ _ _ _ _ j₄ (k₅.kp.mono (Z' := fun b => X b ∨ b = I) fun b hb => .inl (own_x H (slot_own hb))).move fun b o hm e => k₅.kp b o (fun q => hMO b hm (slot_own q)) e
      refine wpAny_mono (hb I xs hq hIX H₂ k y hy s₅ S₅ j₅) (fun f s₆ ⟨k₆, ef, S₆, j₆⟩ => ?_) fun _ _ e => e.elim
      subst ef
      refine ⟨xs.length - (k + 1), by omega, k + 1, rfl, hlt, ((kk.trans (k₄.mono fun b hb => .inr hb)).trans (k₅.mono fun b hb => .inl (hZ b (slot_own hb)))).trans (k₆.mono fun b hb => .inl hb), S₆, ?_, j₆⟩
      have k46 : KeepsX Z s₄ s₆ := (k₅.mono fun b hb => hZ b (slot_own hb)).trans k₆
      exact it₄.move (k46.kp.mono (Z' := fun b => X b ∨ b = I) fun b hb => .inl (hZX b hb)).move fun o e => k46.kp _ o (fun q => hIX (hZX _ q)) e
    · have e : k = xs.length := by simpa using he.symm
      subst e
      have M' : Move (fun b => X b ∨ b = I) s₃.heap X s₄.heap := fun b o hb ho => ⟨fun q => hb (.inl q), k₄.kp b o (fun q => hb (.inr q)) ho⟩
      refine wpAny_execs_nil ⟨rfl, kk.trans (k₄.mono fun b hb => .inr hb), S₃.move M' (fun b o ho => k₄.kp b o (fun q => ?_) (S₃.kg b o ho)) (fun b o hb ho => k₄.kp b o (fun q => hIO (q ▸ hb)) ho) (fun b hb => ?_), hmv _ _ _ _ _ j₃ M' fun b o hm e => k₄.kp b o (fun q => hIX (q ▸ hMX b hm)) e⟩
      · have := H₂.xg b (.inr q); rw [ho] at this; cases this
      · obtain ⟨o, ho⟩ := S₃.lv b (.inl hb)
        exact ⟨o, k₄.kp b o (fun q => hIX (q ▸ hb)) ho⟩
  · subst er
    have k13 : KeepsX Z s₁ s₃ := by
      obtain ⟨h₂, t₂, rfl, q₂⟩ := k₂
      obtain ⟨h₃, t₃, rfl, q₃⟩ := k₃
      exact ⟨h₃, t₃, rfl, fun b o hb e => q₃ b o (fun q => q.elim hb fun q => by rw [q, fr] at e; cases e) (q₂ b o e)⟩
    exact wpAny_mono (hr xs hq s₃ S₃ j₃) (fun f s₄ ⟨k₄, q⟩ => ⟨((kM.mono hMZ).trans k13).trans k₄, q⟩) fun _ _ e => e

/-- range(e), impure -/
theorem evx_range {func e : Expr} {pos : Pos} {P : AV → Prop} (H : Fm g env X) (hJ : StJ env J) (hJ' : StJ env J') (hf : Ev prog w g A env X σ func (.val (.type "range"))) (ha : EvX prog w g A env X M σ J e P J') (hP : ∀ r, P r → ∃ n : Nat, r = .int n) (hst : starEach [e] env = [(false, eval e env)])
    (he : eval (.Call func [e] [] pos) env = (do callWith pos (← eval func env) [] (backTo pos (starEach [e] env)) (backToKw pos (keywordEach [] env)))) :
    EvX prog w g A env X M σ J (.Call func [e] [] pos) (fun r => ∃ n : Nat, P (.int n) ∧ r = .rng n) J' := fun s S j => by
  rw [he]
  refine wpAny_bind (wpAny_mono (hf s S) (fun v s₁ ⟨k₁, r₁⟩ => ?_) fun _ _ e => e.elim)
  simp only [Rel] at r₁
  subst r₁
  show wpAny (model prog w) A (callWith pos (.type "range") [] (backTo pos (starEach [e] env)) []) _ _ s₁
  have hst' : backTo pos (starEach [e] env) = [(false, eval e env)] := by rw [hst]; rfl
  rw [hst']
  refine PyProof.Rows.callWith_type rfl (Calls.evalArgs_plain (Calls.spliced_cons (wpAny_mono (ha s₁ (S.ks k₁) (hJ.ks j k₁)) (fun v s₂ ⟨k₂, S₂, j₂, r, hp, r₂⟩ => Calls.spliced_nil ?_) fun _ _ e => e.elim)))
  obtain ⟨n, rfl⟩ := hP r hp
  exact wpAny_mono ((cl_range (n := n)) s₂ [v] S₂.kg (live_of H S₂) (by simp only [RelL]; exact ⟨r₂, trivial⟩)) (fun x s₃ ⟨k₃, r₃⟩ => ⟨((keeps_x k₁).trans k₂).trans (keeps_x k₃), S₂.ks k₃, hJ'.ks j₂ k₃, _, ⟨n, hp, rfl⟩, r₃⟩) fun _ _ e => e

/- the pool, read -/
theorem acc_mem {h : Heap} {D : Addr} {pool : List Entry} (a : Acc X h D (pool.map encE)) {p : Entry} (hp : p ∈ pool) : Rel X h (encE p) p.1 := by
  obtain ⟨vs, _, q⟩ := a
  obtain ⟨i, hi⟩ := List.mem_iff_getElem?.mp hp
  obtain ⟨v, _, r⟩ := relL_get' q (i := i) (a := encE p) (by rw [List.getElem?_map, hi]; rfl)
  have r' := r
  unfold encE at r
  simp only [Rel] at r
  rw [r.1] at r'
  exact r'
theorem evj_the {x : Str} {D : Addr} {pool : List Entry} {e : Expr} {p : Entry} (hx : σ.lookup x = some (.val (.ref D))) (hp : p ∈ pool) (h : Ev prog w g A env (fun b => X b ∧ b ≠ D) ((x, .list (pool.map encE)) :: σ) e (encE p)) : EvJ prog w g A env X σ (fun h => Acc X h D (pool.map encE)) e (encE p) := fun s S j =>
  wpAny_mono (h s (demote S j hx (fun b hb => hb.1) (fun q => q.2 rfl))) (fun v s' ⟨k, r⟩ => ⟨k, by
    have a' : Acc X s'.heap D (pool.map encE) := j.move (keeps_kp k).move fun o e => keeps_kp k _ o e
    have := acc_mem a' hp
    unfold encE at r
    simp only [Rel] at r
    rw [r.1]; exact this⟩) fun _ _ e => e
theorem evj_bool {x : Str} {D : Addr} {l : List AV} {e : Expr} {b : Bool} (hx : σ.lookup x = some (.val (.ref D))) (h : Ev prog w g A env (fun b => X b ∧ b ≠ D) ((x, .list l) :: σ) e (.bool b)) : EvJ prog w g A env X σ (fun h => Acc X h D l) e (.bool b) := fun s S j =>
  wpAny_mono (h s (demote S j hx (fun b hb => hb.1) (fun q => q.2 rfl))) (fun v s' ⟨k, r⟩ => ⟨k, by simp only [Rel] at r ⊢; exact r⟩) fun _ _ e => e

theorem evx_picked {x : Str} {D T : Addr} {cv : Value} {cells : List Int} {spot : Nat} {pool : List Entry} {e : Expr} {Q : Entry → Entry → Prop} (H : Fm g env X) (hDX : X D) (hTX : X T) (hTO : ¬ Own env T) (hDT : D ≠ T) (hx : σ.lookup x = some (.val (.ref D)))
    (h : EvX prog w g A env (fun b => X b ∧ b ≠ D) (· = T) ((x, .list (pool.map encE)) :: σ) (Tape prog w T cv cells spot (fun b => X b ∧ b ≠ D)) e (fun r => ∃ p q, p ∈ pool ∧ q ∈ pool ∧ Q p q ∧ r = .tup [encE p, encE q]) (fun h => Tape prog w T cv cells (spot + 1) (fun b => X b ∧ b ≠ D) h ∨ Tape prog w T cv cells (spot + 2) (fun b => X b ∧ b ≠ D) h)) :
    EvX prog w g A env X (· = T) σ (fun h => Tape prog w T cv cells spot X h ∧ Acc X h D (pool.map encE)) e (fun r => ∃ a b, (∃ p q, p ∈ pool ∧ q ∈ pool ∧ Q p q ∧ a = encE p ∧ b = encE q) ∧ r = .tup [a, b]) (fun h => ∃ sp, sp ≤ spot + 2 ∧ (Tape prog w T cv cells sp X h ∧ Acc X h D (pool.map encE))) := fun s S ⟨tp, acc⟩ => by
  refine wpAny_mono (h s (demote S acc hx (fun b hb => hb.1) (fun q => q.2 rfl)) (tp.move (Move.less fun b hb => hb.1) fun _ e => e)) (fun v s' ⟨k, S', j', r, ⟨p, q, hp, hq, hQ, er⟩, rv⟩ => ?_) fun _ _ e => e
  subst er
  have mX : Move X s.heap X s'.heap := (k.kp.mono fun b hb => hb ▸ hTX).move
  have acc' : Acc X s'.heap D (pool.map encE) := acc.move mX fun o e => k.kp _ o hDT e
  obtain ⟨_, _, cvr⟩ := tp
  have cvr' := cvr.move mX
  have tapes : ∃ sp, sp ≤ spot + 2 ∧ Tape prog w T cv cells sp X s'.heap := by
    rcases j' with ⟨t, hd, _⟩ | ⟨t, hd, _⟩
    · exact ⟨spot + 1, by omega, t, hd, cvr'⟩
    · exact ⟨spot + 2, Nat.le_refl _, t, hd, cvr'⟩
  have liveT : ∃ o, s'.heap.get? T = some o := let ⟨_, _, x⟩ := tapes; x.live
  refine ⟨k, S.kx H k fun b hb => ⟨hb ▸ hTX, hb ▸ hTO, hb ▸ liveT⟩, let ⟨sp, h1, h2⟩ := tapes; ⟨sp, h1, h2, acc'⟩, _, ⟨_, _, ⟨p, q, hp, hq, hQ, rfl, rfl⟩, rfl⟩, ?_⟩
  simp only [Rel] at rv ⊢
  obtain ⟨t, vs, n, rfl, ht, hot, ql⟩ := rv
  refine ⟨t, vs, n, rfl, fun hb => ?_, hot, ?_⟩
  · by_cases e : t = D
    · obtain ⟨us, ⟨m, hu⟩, _⟩ := acc'
      rw [← e, hot] at hu
      have := congrArg (fun o => o.map Obj.cls) hu
      simp [seqObj] at this
    · exact ht ⟨hb, e⟩
  · match vs, ql with
    | [u1, u2], ql =>
      simp only [RelL] at ql ⊢
      obtain ⟨q1, q2, _⟩ := ql
      have a1 := acc_mem acc' hp
      have a2 := acc_mem acc' hq
      unfold encE at q1 q2
      simp only [Rel] at q1 q2
      rw [q1.1, q2.1]
      exact ⟨a1, a2, trivial⟩
    | [], ql => simp only [RelL] at ql
    | [_], ql => simp only [RelL] at ql; exact ql.2.elim
    | _ :: _ :: _ :: _, ql => simp only [RelL] at ql; exact ql.2.2.elim
end
end Mine
end

section
open PySem PySem.W PyProof.Rows
set_option Elab.async false
set_option maxRecDepth 100000
set_option linter.unusedVariables false
namespace Mine

noncomputable def Good (m : Nat) (pool : List Entry) : Prop := ∀ p ∈ pool, 1 ≤ p.2.1 ∧ p.2.1 ≤ 3 ∧ OkS m p.2.1 p.2.2 ∧ Sorted p.2.2
noncomputable def HasA (pool : List Entry) : Prop := ∀ a, 1 ≤ a → a ≤ 3 → ∃ p ∈ pool, p.2.1 = a
theorem Good.snoc {m : Nat} {pool : List Entry} (h : Good m pool) {p : Entry} (hp : 1 ≤ p.2.1 ∧ p.2.1 ≤ 3 ∧ OkS m p.2.1 p.2.2 ∧ Sorted p.2.2) : Good m (pool ++ [p]) := fun q hq => by
  rcases List.mem_append.mp hq with z | z
  · exact h q z
  · rw [List.mem_singleton] at z; subst z; exact hp
theorem HasA.app {pool : List Entry} (h : HasA pool) (l : List Entry) : HasA (pool ++ l) := fun a h1 h2 => let ⟨p, hp, e⟩ := h a h1 h2; ⟨p, List.mem_append_left _ hp, e⟩
theorem firsts_ne {k : Nat} (hk : k ≤ 10) {pool : List Entry} (h : HasA pool) : firstsOf k pool ≠ [] := by
  have : ∃ a b : Nat, 1 ≤ a ∧ a ≤ 3 ∧ 1 ≤ b ∧ b ≤ 3 ∧ 0 < fitsP k a b := by
    have hall : k = 0 ∨ k = 1 ∨ k = 2 ∨ k = 3 ∨ k = 4 ∨ k = 5 ∨ k = 6 ∨ k = 7 ∨ k = 8 ∨ k = 9 ∨ k = 10 := by omega
    rcases hall with e | e | e | e | e | e | e | e | e | e | e <;> subst e
    · exact ⟨1, 1, by decide⟩
    · exact ⟨1, 1, by decide⟩
    · exact ⟨1, 1, by decide⟩
    · exact ⟨1, 2, by decide⟩
    · exact ⟨1, 1, by decide⟩
    · exact ⟨2, 1, by decide⟩
    · exact ⟨2, 1, by decide⟩
    · exact ⟨2, 1, by decide⟩
    · exact ⟨1, 1, by decide⟩
    · exact ⟨1, 1, by decide⟩
    · exact ⟨1, 1, by decide⟩
  obtain ⟨a, b, a1, a2, b1, b2, hf⟩ := this
  obtain ⟨p, hp, ep⟩ := h a a1 a2
  obtain ⟨q, hq, eq⟩ := h b b1 b2
  have hc : canP k p q = true := by unfold canP; rw [ep, eq]; exact decide_eq_true hf
  have h1 : q ∈ pool.filter (canP k p) := List.mem_filter.mpr ⟨hq, hc⟩
  have h2 : p ∈ firstsOf k pool := by
    refine List.mem_filter.mpr ⟨hp, ?_⟩
    cases e : pool.filter (canP k p) with
    | nil => rw [e] at h1; cases h1
    | cons x l => rfl
  exact List.ne_nil_of_mem h2

section
variable {prog : Program} {w : World} {g : Heap} {mg mb : Str → Option Value} {A : Around} {env : Env} {X X' Y Z M : Addr → Prop} {σ σ' : List (Str × AV)} {E : Value → Shared → Prop} {J J' K : Heap → Prop} {R : Flow → Heap → Prop}

theorem acc_keep {D T : Addr} {l : List AV} (hTX : X T) (hDT : D ≠ T) : ∀ h h', Acc X h D l → KpX (· = T) h h' → Acc X h' D l := fun h h' a k => a.move (k.mono fun b hb => hb ▸ hTX).move fun o e => k D o hDT e
theorem tape_keep {D T : Addr} {cv : Value} {cells : List Int} {spot : Nat} (hDX : X D) (hDT : D ≠ T) : ∀ h h', Tape prog w T cv cells spot X h → KpX (· = D) h h' → Tape prog w T cv cells spot X h' := fun h h' a k => a.move (k.mono fun b hb => hb ▸ hDX).move fun o e => k T o (Ne.symm hDT) e

/-- first loop -/
noncomputable def LI1 (prog : Program) (w : World) (T D : Addr) (cv : Value) (cells : List Int) (m : Nat) (X : Addr → Prop) (k : Nat) (h : Heap) : Prop :=
  ∃ pool : List Entry, (pool.map (·.2.1) = [1, 1, 2, 2, 3].take k ∧ Good m pool) ∧ (Tape prog w T cv cells (1 + k) X h ∧ Acc X h D (pool.map encE))
/-- second loop -/
noncomputable def LI2 (prog : Program) (w : World) (T D : Addr) (cv : Value) (cells : List Int) (m : Nat) (X : Addr → Prop) (k : Nat) (h : Heap) : Prop :=
  ∃ q : Nat × List Entry, (q.1 ≤ 7 + 3 * k ∧ q.2.length = 5 + k ∧ Good m q.2 ∧ HasA q.2) ∧ (Tape prog w T cv cells q.1 X h ∧ Acc X h D (q.2.map encE))
theorem li1_mv {T D : Addr} {cv : Value} {cells : List Int} {m : Nat} : ∀ (X X' : Addr → Prop) k h h', LI1 prog w T D cv cells m X k h → Move X h X' h' → (∀ b o, (b = T ∨ b = D) → h.get? b = some o → h'.get? b = some o) → LI1 prog w T D cv cells m X' k h' := fun X X' k h h' ⟨pool, hp, t, a⟩ M e =>
  ⟨pool, hp, t.move M fun o => e T o (.inl rfl), a.move M fun o => e D o (.inr rfl)⟩
theorem li2_mv {T D : Addr} {cv : Value} {cells : List Int} {m : Nat} : ∀ (X X' : Addr → Prop) k h h', LI2 prog w T D cv cells m X k h → Move X h X' h' → (∀ b o, (b = T ∨ b = D) → h.get? b = some o → h'.get? b = some o) → LI2 prog w T D cv cells m X' k h' := fun X X' k h h' ⟨pool, hp, t, a⟩ M e =>
  ⟨pool, hp, t.move M fun o => e T o (.inl rfl), a.move M fun o => e D o (.inr rfl)⟩

set_option maxHeartbeats 16000000 in
theorem c_law (G : Gnd g mg mb) (hA : Room 19 A) {fa : Addr} (ha : mg Flaw.name = some (.ref fa)) {ns : List Int} (hns : ns.length ≤ 1000) : Cl prog w g A X (.ref fa) [.list (intsA ns)] (.bool true) := by
  refine cl_def G (d := Flaw) (by simp [recs]) ha (k := 18) (names := ["script"]) hA rfl (fun _ _ _ vs h => ?_) rfl (by decide) rfl rfl rfl fun L cd X' H hA' => ?_
  · match vs, h with
    | [v], _ => rfl
  obtain ⟨ad, had, hCd⟩ := fn_of G (d := Flaw_draw) (by simp [recs])
  obtain ⟨adn, hadn, hCdn⟩ := fn_of G (d := Flaw_drawn) (by simp [recs])
  obtain ⟨as, has, hCs⟩ := fn_of G (d := Fset_of) (by simp [recs])
  obtain ⟨ak, hak, hCk⟩ := fn_of G (d := Flaw_known) (by simp [recs])
  obtain ⟨ap, hap, hCp⟩ := fn_of G (d := Flaw_picked) (by simp [recs])
  obtain ⟨af, haf, hCf⟩ := fn_of G (d := Flaw_fits) (by simp [recs])
  obtain ⟨ar, har, hCr⟩ := fn_of G (d := Flaw_rows) (by simp [recs])
  obtain ⟨ai, hai, hCi⟩ := fn_of G (d := Flaw_is_in) (by simp [recs])
  obtain ⟨ado, hado, hCdo⟩ := fn_of G (d := Flaw_done) (by simp [recs])
  obtain ⟨aw, haw, hCw⟩ := fn_of G (d := Flaw_is_whole) (by simp [recs])
  have hh := hA'.hh
  -- the tape
  refine bg_tape (cells := cut none (some 40) ns) H (fun _ h => h) (.inl rfl) (fun Y HY => ?_) (fun Y => ev_int) trivial rfl fun T cv hTX HT => ?_
  · exact ev_call HY (by exact ev_boot (by assumption) (by assumption) (by simp [bnames]) rfl rfl rfl) (.inr (.inl ⟨_, rfl⟩)) (evl_cons (r := .list (intsA (cut none (some 40) ns))) (ev_eq (ev_sliceL HY (l := intsA ns) (lo := none) (hi := some 40) (by first | exact ev_local (by assumption) rfl rfl rfl | exact ev_cell' (by assumption) rfl rfl rfl rfl) evp_none (evp_some ev_int) (by rw [List.length_map]; omega)) (by rw [cut_map])) rfl evl_nil) (cl_listL (by rw [List.length_map]; have := cut_len none (some 40) ns; omega)) rfl
  have hTO : ¬ Own (envOfC Flaw.name Flaw.scope L fa cd) T := fun hb => hTX (own_x H hb)
  have hcl : (cut none (some 40) ns).length ≤ 1000 := by have := cut_len none (some 40) ns; omega
  generalize cut none (some 40) ns = cells at hcl ⊢
  -- n and pool
  refine bg_n_pool (M := fun b => b = T) (P := fun r => ∃ m : Nat, r = .int m ∧ (m = 2 ∨ m = 3)) (JX := Tape prog w T cv cells 1) HT hh (fun b hb => .inl hb) (fun b hb => .inr hb) (fun b hb => .inr hb) (fun b hb => hb ▸ hTO) (fun X X' h h' t M e => tape_mv X X' h h' t M e) (.inr ⟨rfl, _, rfl⟩) (.inl rfl)
    (evx_bin (P := Drawn 2) HT (Tape.stj (fun b hb => .inl (own_x H hb)) hTO) (Tape.stj (fun b hb => .inl (own_x H hb)) hTO) (fun b hb => .inr hb) ev_int (evx_call HT (ev_glob G HT had rfl rfl) hCd (evl_cons (by first | exact ev_local (by assumption) rfl rfl rfl | exact ev_cell' (by assumption) rfl rfl rfl rfl) rfl (evl_cons ev_int rfl evl_nil)) (c_draw G (hA'.le (by decide)) had (.inr rfl) (by decide) (by decide) hcl) (Tape.stj (fun b hb => .inl (own_x H hb)) hTO) (fun b hb => .inr hb) (fun b hb => hb ▸ hTO) (fun h x b hb => hb ▸ x.live) rfl) (fun b hb => ?_)) (fun _ => rfl) rfl rfl fun r D hr hDX HD => ?_
  · obtain ⟨i, rfl, h0, h1⟩ := hb
    exact ⟨.int (2 + i), ⟨(2 + i).toNat, by congr 1; omega, by omega⟩, op_add⟩
  obtain ⟨m, rfl, hm⟩ := hr
  have hm3 : m ≤ 3 := by omega
  have hDT : D ≠ T := fun e => hDX (.inr e)
  have hDO : ¬ Own (envOfC Flaw.name Flaw.scope L fa cd) D := fun hb => hDX (.inl (own_x H hb))
  have mutX : ∀ b, (b = T ∨ b = D) → ((X' b ∨ b = T) ∨ b = D) := fun b hb => hb.elim (fun e => .inl (.inr e)) .inr
  have mutO : ∀ b, (b = T ∨ b = D) → ¬ Own (envOfC Flaw.name Flaw.scope L fa cd) b := fun b hb => hb.elim (fun e => e ▸ hTO) fun e => e ▸ hDO
  have hZX : ∀ b, ((Own (envOfC Flaw.name Flaw.scope L fa cd) b ∨ b = T) ∨ b = D) → ((X' b ∨ b = T) ∨ b = D) := fun b hb => hb.elim (fun h => .inl (h.elim (fun q => .inl (own_x H q)) .inr)) .inr
  -- the first loop
  refine bg_for (xs := [1, 1, 2, 2, 3]) (enc := fun (a : Nat) => .int a) (src := .tup [.int (1 : Nat), .int (1 : Nat), .int (2 : Nat), .int (2 : Nat), .int (3 : Nat)]) (σf := fun _ => [("pool", .val (.ref D)), ("n", .int m), ("tape", .val (.ref T))]) (Jf := LI1 prog w T D cv cells m) (Mut := fun b => b = T ∨ b = D) HD hh (fun _ => rfl)
    (ev_tuple HD (evl_cons ev_int rfl (evl_cons ev_int rfl (evl_cons ev_int rfl (evl_cons ev_int rfl (evl_cons ev_int rfl evl_nil))))) (by simp)) (.tup _) (.inr ⟨rfl, _, rfl⟩) (fun b hb => .inl (.inl hb)) hZX mutX mutO li1_mv (ask_lookup ⟨rfl, rfl, rfl, trivial⟩) (fun h _ j => ⟨[], ⟨rfl, fun _ h => nomatch h⟩, j.1, j.2⟩) (fun I hI HI k a hk => ?_) ?_
  · have hIO : ¬ Own (envOfC Flaw.name Flaw.scope L fa cd) I := fun hb => hI (.inl (.inl (own_x H hb)))
    have ha3 : 1 ≤ a ∧ a ≤ 3 := by
      have := List.mem_of_getElem? hk
      simp at this; omega
    refine bg_ex fun pool => bg_prop fun hpp => ?_
    obtain ⟨hpa, hpg⟩ := hpp
    have hpl : pool.length ≤ 5 := by
      have := congrArg List.length hpa
      simp at this; omega
    have stA : StJ (envOfC Flaw.name Flaw.scope L fa cd) (fun h => Acc (fun b => ((X' b ∨ b = T) ∨ b = D) ∨ b = I) h D (pool.map encE)) := stj_acc (fun b hb => .inl (.inl (.inl (own_x H hb)))) hDO
    have stT : ∀ j, StJ (envOfC Flaw.name Flaw.scope L fa cd) (Tape prog w T cv cells j (fun b => ((X' b ∨ b = T) ∨ b = D) ∨ b = I)) := fun j => Tape.stj (fun b hb => .inl (.inl (.inl (own_x H hb)))) hTO
    have hk5 : k < 5 := by have := (List.getElem?_eq_some_iff.mp hk).1; simpa using this
    refine bgx_assign (M := fun b => b = T) (P := fun r => ∃ S, r = rowsL S ∧ OkS m a S ∧ Sorted S) (J' := fun h => Tape prog w T cv cells (1 + k + 1) (fun b => ((X' b ∨ b = T) ∨ b = D) ∨ b = I) h ∧ Acc (fun b => ((X' b ∨ b = T) ∨ b = D) ∨ b = I) h D (pool.map encE)) HI (fun b hb => .inl (.inl hb)) (fun b hb => .inl (.inr hb)) (stj_and (stT _) stA)
      (evx_frame (evx_call HI (ev_glob G HI hadn rfl rfl) hCdn (evl_cons (by first | exact ev_local (by assumption) rfl rfl rfl | exact ev_cell' (by assumption) rfl rfl rfl rfl) rfl (evl_cons (by first | exact ev_local (by assumption) rfl rfl rfl | exact ev_cell' (by assumption) rfl rfl rfl rfl) rfl (evl_cons (by first | exact ev_local (by assumption) rfl rfl rfl | exact ev_cell' (by assumption) rfl rfl rfl rfl) rfl evl_nil))) (c_drawn G (hA'.le (by decide)) hadn (.inl (.inl (.inr rfl))) (by omega) hcl hm3 ha3.2) (stT _) (fun b hb => .inl (.inl (.inr hb))) (fun b hb => hb ▸ hTO) (fun h x b hb => hb ▸ x.live) rfl) (acc_keep (.inl (.inl (.inr rfl))) hDT)) (.inl rfl) rfl fun r hr => ?_
    obtain ⟨S, rfl, okS, sS⟩ := hr
    have zS := ok_27 hm3 ha3.2 okS (sorted_nodup sS)
    have okr : OkS m a (S.reverse ++ S) := fun r hr => okS r ((List.mem_append.mp hr).elim List.mem_reverse.mp id)
    have eset : setOf (S.reverse ++ S) = S := sorted_ext (setOf_sorted _) sS fun x => by rw [mem_setOf, List.mem_append, List.mem_reverse, or_self]
    refine bg_append_the (r := itemA a S) HI (.inl (.inr rfl)) hDO (.inr rfl) (stT _) (tape_keep (.inl (.inr rfl)) hDT) (by rw [List.length_map]; omega) (by first | exact ev_local (by assumption) rfl rfl rfl | exact ev_cell' (by assumption) rfl rfl rfl rfl) (ev_tuple HI (evl_cons (by first | exact ev_local (by assumption) rfl rfl rfl | exact ev_cell' (by assumption) rfl rfl rfl rfl) rfl (evl_cons (r := rowsT S) ?_ rfl (evl_cons (by first | exact ev_local (by assumption) rfl rfl rfl | exact ev_cell' (by assumption) rfl rfl rfl rfl) rfl (evl_cons (r := .rows S) ?_ rfl evl_nil)))) (by simp)) rfl rfl rfl rfl rfl fun u => ?_
    · refine ev_eq (ev_call HI (ev_glob G HI has rfl rfl) hCs (evl_cons (r := rowsL (S.reverse ++ S)) (ev_bin HI (a := rowsL S.reverse) (ev_eq (ev_rev HI (l := S.map row) (by first | exact ev_local (by assumption) rfl rfl rfl | exact ev_cell' (by assumption) rfl rfl rfl rfl) (ev_neg ev_int rfl) (by rw [List.length_map]; omega)) (by rw [← List.map_reverse])) (by first | exact ev_local (by assumption) rfl rfl rfl | exact ev_cell' (by assumption) rfl rfl rfl rfl) (op_catSL (by rw [List.length_reverse]; omega))) rfl evl_nil) (c_set_of G (hA'.le (by decide)) has (.list _) (by rw [List.length_append, List.length_reverse]; omega) (firsts_64 hm3 ha3.2 okr) (ok_ne ha3.1 okr)) rfl) (by rw [eset])
    · exact ev_eq (ev_call HI (ev_glob G HI hak rfl rfl) hCk (evl_cons (by first | exact ev_local (by assumption) rfl rfl rfl | exact ev_cell' (by assumption) rfl rfl rfl rfl) rfl evl_nil) (c_known G (hA'.le (by decide)) hak (by omega)) rfl) (by rw [firsts_eq (sorted_nodup sS)])
    · refine bg_nil fun h St' j => ⟨rfl, St'.sub (ask_lookup ⟨rfl, rfl, rfl, trivial⟩), pool ++ [(u, a, S)], ⟨?_, hpg.snoc ⟨ha3.1, ha3.2, okS, sS⟩⟩, j.1, by rw [List.map_append]; exact j.2⟩
      rw [List.map_append, hpa, List.take_add_one, hk]; rfl
  -- the second loop
  have stA2 : ∀ l, StJ (envOfC Flaw.name Flaw.scope L fa cd) (fun h => Acc (fun b => (X' b ∨ b = T) ∨ b = D) h D l) := fun l => stj_acc (fun b hb => .inl (.inl (own_x H hb))) hDO
  have stT2 : ∀ j, StJ (envOfC Flaw.name Flaw.scope L fa cd) (Tape prog w T cv cells j (fun b => (X' b ∨ b = T) ∨ b = D)) := fun j => Tape.stj (fun b hb => .inl (.inl (own_x H hb))) hTO
  refine bg_ex fun pool => bg_prop fun hpp => ?_
  obtain ⟨hpa, hpg⟩ := hpp
  have hpa : pool.map (·.2.1) = [1, 1, 2, 2, 3] := hpa
  have hpl : pool.length = 5 := by have := congrArg List.length hpa; simpa using this
  have hHas : HasA pool := fun a h1 h2 => by
    have : a ∈ pool.map (·.2.1) := by rw [hpa]; simp; omega
    obtain ⟨p, hp, e⟩ := List.mem_map.mp this
    exact ⟨p, hp, e⟩
  refine bg_pre (σ' := [("pool", .val (.ref D)), ("n", .int m), ("tape", .val (.ref T))]) (J' := fun h => Tape prog w T cv cells 6 (fun b => (X' b ∨ b = T) ∨ b = D) h ∧ Acc (fun b => (X' b ∨ b = T) ∨ b = D) h D (pool.map encE)) ?_ (fun _ _ j => j) (fun _ => .inr rfl)
  refine bg_forX (M := fun b => b = T) (Q := fun xs : List Nat => ∃ k, k ≤ 6 ∧ xs = List.range k) (enc := fun (i : Nat) => .int i) (σf := fun _ => [("pool", .val (.ref D)), ("n", .int m), ("tape", .val (.ref T))]) (Jf := LI2 prog w T D cv cells m) (Mut := fun b => b = T ∨ b = D) HD hh (fun _ => rfl)
    (evx_mono (evx_range (P := fun r => ∃ k : Nat, r = .int k ∧ k ≤ 6) (J' := fun h => Tape prog w T cv cells 7 (fun b => (X' b ∨ b = T) ∨ b = D) h ∧ Acc (fun b => (X' b ∨ b = T) ∨ b = D) h D (pool.map encE)) HD (stj_and (stT2 _) (stA2 _)) (stj_and (stT2 _) (stA2 _)) (by exact ev_boot (by assumption) (by assumption) (by simp [bnames]) rfl rfl rfl)
      (evx_bin (P := Drawn 5) HD (stj_and (stT2 _) (stA2 _)) (stj_and (stT2 _) (stA2 _)) (fun b hb => .inl (.inr hb)) ev_int (evx_frame (evx_call HD (ev_glob G HD had rfl rfl) hCd (evl_cons (by first | exact ev_local (by assumption) rfl rfl rfl | exact ev_cell' (by assumption) rfl rfl rfl rfl) rfl (evl_cons ev_int rfl evl_nil)) (c_draw G (hA'.le (by decide)) had (.inl (.inr rfl)) (by decide) (by decide) hcl) (stT2 _) (fun b hb => .inl (.inr hb)) (fun b hb => hb ▸ hTO) (fun h x b hb => hb ▸ x.live) rfl) (acc_keep (.inl (.inr rfl)) hDT)) (fun b hb => ?_)) (fun r ⟨k, e, _⟩ => ⟨k, e⟩) rfl rfl)
      (fun r ⟨k, ⟨k', e, hk⟩, er⟩ => ⟨List.range k, ⟨k, ?_, rfl⟩, er ▸ .rng k ?_⟩) (fun h j => ⟨(7, pool), ⟨by simp, hpl, hpg, hHas⟩, j⟩)) (fun b hb => .inl (.inr hb)) (.inl rfl) (fun b hb => .inl (.inl hb)) hZX mutX mutO li2_mv (fun _ => .inr rfl) (fun I xs hxs hI HI k a hk => ?_) fun xs hxs => ?_
  · obtain ⟨i, rfl, h0, h1⟩ := hb
    exact ⟨.int (2 + i), ⟨(2 + i).toNat, by congr 1; omega, by omega⟩, op_add⟩
  · have : (k : Int) = k' := by simpa using e
    omega
  · have : (k : Int) = k' := by simpa using e
    omega
  · -- a lap
    obtain ⟨kx, hkx, rfl⟩ := hxs
    have hk6 : k < 6 := by have := (List.getElem?_eq_some_iff.mp hk).1; simp at this; omega
    have hIO : ¬ Own (envOfC Flaw.name Flaw.scope L fa cd) I := fun hb => hI (.inl (.inl (own_x H hb)))
    have stA : ∀ l, StJ (envOfC Flaw.name Flaw.scope L fa cd) (fun h => Acc (fun b => ((X' b ∨ b = T) ∨ b = D) ∨ b = I) h D l) := fun l => stj_acc (fun b hb => .inl (.inl (.inl (own_x H hb)))) hDO
    have stT : ∀ j, StJ (envOfC Flaw.name Flaw.scope L fa cd) (Tape prog w T cv cells j (fun b => ((X' b ∨ b = T) ∨ b = D) ∨ b = I)) := fun j => Tape.stj (fun b hb => .inl (.inl (.inl (own_x H hb)))) hTO
    refine bg_ex fun q => bg_prop fun hq => ?_
    obtain ⟨sp, pool⟩ := q
    obtain ⟨hsp, hpl, hpg, hHas⟩ := hq
    dsimp only at hsp hpl hpg hHas ⊢
    -- word
    refine bgx_assign (M := fun b => b = T) (P := Drawn 11) (J' := fun h => Tape prog w T cv cells (sp + 1) (fun b => ((X' b ∨ b = T) ∨ b = D) ∨ b = I) h ∧ Acc (fun b => ((X' b ∨ b = T) ∨ b = D) ∨ b = I) h D (pool.map encE)) HI (fun b hb => .inl (.inl hb)) (fun b hb => .inl (.inr hb)) (stj_and (stT _) (stA _))
      (evx_frame (evx_call HI (ev_glob G HI had rfl rfl) hCd (evl_cons (by first | exact ev_local (by assumption) rfl rfl rfl | exact ev_cell' (by assumption) rfl rfl rfl rfl) rfl (evl_cons ev_int rfl evl_nil)) (c_draw G (hA'.le (by decide)) had (.inl (.inl (.inr rfl))) (by decide) (by omega) hcl) (stT _) (fun b hb => .inl (.inl (.inr hb))) (fun b hb => hb ▸ hTO) (fun h x b hb => hb ▸ x.live) rfl) (acc_keep (.inl (.inl (.inr rfl))) hDT)) (.inr ⟨rfl, _, rfl⟩) rfl fun r hr => ?_
    obtain ⟨wi, rfl, hw0, hw1⟩ := hr
    obtain ⟨wd, rfl⟩ : ∃ wd : Nat, wi = wd := ⟨wi.toNat, by omega⟩
    have hwd : wd ≤ 10 := by omega
    -- one, late
    have HY := Fm.sub (D := D) HI hDO
    refine bgx_pair (M := fun b => b = T) (Q := fun a b => ∃ p q, p ∈ pool ∧ q ∈ pool ∧ (canP wd p q = true ∨ ((wd = 5 ∨ wd = 6 ∨ wd = 7) ∧ q = p ∧ ∃ q', canP wd p q' = true)) ∧ a = encE p ∧ b = encE q) (J' := fun h => ∃ s', s' ≤ sp + 1 + 2 ∧ (Tape prog w T cv cells s' (fun b => ((X' b ∨ b = T) ∨ b = D) ∨ b = I) h ∧ Acc (fun b => ((X' b ∨ b = T) ∨ b = D) ∨ b = I) h D (pool.map encE))) HI hh (fun b hb => .inl (.inl hb)) (fun b hb => .inl (.inr hb))
      (fun h h' k' ⟨s', h1, h2⟩ => ⟨s', h1, stj_and (stT s') (stA _) h h' k' h2⟩) (.inr ⟨rfl, _, rfl⟩) (.inr ⟨rfl, _, rfl⟩)
      (evx_picked (x := "pool") HI (.inl (.inr rfl)) (.inl (.inl (.inr rfl))) hTO hDT rfl (evx_call HY (ev_glob G HY hap rfl rfl) hCp (evl_cons (by first | exact ev_local (by assumption) rfl rfl rfl | exact ev_cell' (by assumption) rfl rfl rfl rfl) rfl (evl_cons (by first | exact ev_local (by assumption) rfl rfl rfl | exact ev_cell' (by assumption) rfl rfl rfl rfl) rfl (evl_cons (by first | exact ev_local (by assumption) rfl rfl rfl | exact ev_cell' (by assumption) rfl rfl rfl rfl) rfl evl_nil))) (c_picked G (hA'.le (by decide)) hap ⟨.inl (.inl (.inr rfl)), Ne.symm hDT⟩ (by omega) hcl (by omega) hwd (firsts_ne hwd hHas)) (Tape.stj (fun b hb => ⟨.inl (.inl (.inl (own_x H hb))), fun e => hDO (e ▸ hb)⟩) hTO) (fun b hb => by subst hb; exact ⟨.inl (.inl (.inr rfl)), Ne.symm hDT⟩) (fun b hb => hb ▸ hTO) (fun h x b hb => hb ▸ x.elim Tape.live Tape.live) rfl)) rfl rfl fun ea eb hab => ?_
    obtain ⟨p, q, hp, hq, hcan, rfl, rfl⟩ := hab
    refine bg_ex fun s' => bg_prop fun hs' => ?_
    obtain ⟨hpa1, hpa3, hpok, hps⟩ := hpg p hp
    obtain ⟨hqa1, hqa3, hqok, hqs⟩ := hpg q hq
    have hfit : Fit wd p.2.1 q.2.1 := by
      rcases hcan with h | ⟨h5, rfl, q', h⟩
      · exact fit_of hpa1 hwd (of_decide_eq_true h)
      · have := fit_of hpa1 hwd (of_decide_eq_true h)
        have ea : q.2.1 = 2 := by rcases this with h | h | h | h | h | h <;> omega
        exact .inr (.inr (.inl ⟨h5, ea⟩))
    have hfe := fits_eq hfit
    have hc : 1 ≤ fitN wd p.2.1 q.2.1 ∧ fitN wd p.2.1 q.2.1 ≤ 3 := by
      unfold fitN
      rcases hfit with ⟨rfl, h⟩ | ⟨rfl, h⟩ | ⟨h, h'⟩ | ⟨rfl, h⟩ | ⟨rfl, h⟩ | ⟨h, h'⟩
      · simp; omega
      · simp; omega
      · rcases h with rfl | rfl | rfl <;> simp <;> omega
      · simp; omega
      · simp; omega
      · rcases h with rfl | rfl | rfl | rfl <;> simp <;> omega
    have hlaw := plain_law hm3 hpa1 hqa1 hwd hfit hpok hqok hps hqs
    generalize hcc : fitN wd p.2.1 q.2.1 = c at hc hfe hlaw
    have stJ : StJ (envOfC Flaw.name Flaw.scope L fa cd) (fun h => Tape prog w T cv cells s' (fun b => ((X' b ∨ b = T) ∨ b = D) ∨ b = I) h ∧ Acc (fun b => ((X' b ∨ b = T) ∨ b = D) ∨ b = I) h D (pool.map encE)) := stj_and (stT _) (stA _)
    have hO : ∀ b, Own (envOfC Flaw.name Flaw.scope L fa cd) b → ((Own (envOfC Flaw.name Flaw.scope L fa cd) b ∨ b = T) ∨ b = D) := fun b hb => .inl (.inl hb)
    -- arity
    refine bg_assign HI hO stJ (r := .int c) (ev_eq (ev_call HI (ev_glob G HI haf rfl rfl) hCf (evl_cons (by first | exact ev_local (by assumption) rfl rfl rfl | exact ev_cell' (by assumption) rfl rfl rfl rfl) rfl (evl_cons (ev_part (k := 0) (p := p) (by first | exact ev_local (by assumption) rfl rfl rfl | exact ev_cell' (by assumption) rfl rfl rfl rfl) ev_int rfl (by decide) (fun _ _ => rfl)) rfl (evl_cons (ev_part (k := 0) (p := q) (by first | exact ev_local (by assumption) rfl rfl rfl | exact ev_cell' (by assumption) rfl rfl rfl rfl) ev_int rfl (by decide) (fun _ _ => rfl)) rfl evl_nil))) (c_fits G (hA'.le (by decide)) haf) rfl) (by rw [hfe])) (.inr ⟨rfl, _, rfl⟩) rfl ?_
    -- due
    have z27 : (rowsP m c).length ≤ 27 := by rw [rowsP_len]; exact pow_le hm3 hc.2
    have zq := ok_27 hm3 hqa3 hqok (sorted_nodup hqs)
    refine bg_cp HI hh hO stJ (out := ((rowsP m c).filter fun r => isInP wd m r p.2.1 p.2.2 q.2.2).map row) (cp_filter (xs := rowsP m c) (enc := row) (f := row) (pz := fun r => isInP wd m r p.2.1 p.2.2 q.2.2) (bd := fun r => [("row", row r), ("late", encE q), ("one", encE p), ("word", .int wd), ("n", .int m)]) (src := rowsL (rowsP m c)) (fun _ => rfl) rfl rfl (by decide)
      (ev_call HI (ev_glob G HI har rfl rfl) hCr (evl_cons (by first | exact ev_local (by assumption) rfl rfl rfl | exact ev_cell' (by assumption) rfl rfl rfl rfl) rfl (evl_cons (by first | exact ev_local (by assumption) rfl rfl rfl | exact ev_cell' (by assumption) rfl rfl rfl rfl) rfl evl_nil)) (c_rows G (hA'.le (by decide)) har hm3 hc.2) rfl) (.list _) (by omega) fun C Y HC r hr => ?_) rfl rfl ?_
    · have hrok := mem_rowsP.mp hr
      refine ⟨asg_nm HC rfl, sub_cons rfl, tr_ev (ev_call HC (ev_glob G HC hai rfl rfl) hCi (evl_cons (by first | exact ev_local (by assumption) rfl rfl rfl | exact ev_cell' (by assumption) rfl rfl rfl rfl) rfl (evl_cons (by first | exact ev_local (by assumption) rfl rfl rfl | exact ev_cell' (by assumption) rfl rfl rfl rfl) rfl (evl_cons (by first | exact ev_local (by assumption) rfl rfl rfl | exact ev_cell' (by assumption) rfl rfl rfl rfl) rfl (evl_cons (ev_part (k := 0) (p := p) (by first | exact ev_local (by assumption) rfl rfl rfl | exact ev_cell' (by assumption) rfl rfl rfl rfl) ev_int rfl (by decide) (fun _ _ => rfl)) rfl (evl_cons (ev_part (k := 3) (p := p) (by first | exact ev_local (by assumption) rfl rfl rfl | exact ev_cell' (by assumption) rfl rfl rfl rfl) ev_int rfl (by decide) (fun _ _ => rfl)) rfl (evl_cons (ev_part (k := 3) (p := q) (by first | exact ev_local (by assumption) rfl rfl rfl | exact ev_cell' (by assumption) rfl rfl rfl rfl) ev_int rfl (by decide) (fun _ _ => rfl)) rfl evl_nil))))))
        (c_is_in G (hA'.le (by decide)) hai hm3 (by have := hrok.1; omega) (fun e => by have := hrok.1; rw [e] at this; simp at this; omega) (fun h5 => ?_) ⟨by omega, by omega⟩ (by omega) ?_ (ok_ne hqa1 hqok)) rfl) rfl, (by first | exact ev_local (by assumption) rfl rfl rfl | exact ev_cell' (by assumption) rfl rfl rfl rfl)⟩
      · have h5' : wd = 5 ∨ wd = 6 ∨ wd = 7 := by omega
        have ea : p.2.1 = 2 := by rcases hfit with h | h | h | h | h | h <;> omega
        have : c = 2 := by rw [← hcc]; unfold fitN; rcases h5' with rfl | rfl | rfl <;> simpa using ea
        rw [hrok.1, this]
      · have : (setOf q.2.2).length ≤ q.2.2.length := (sorted_nodup (setOf_sorted _)).length_le_of_subset fun x hx => mem_setOf.mp hx
        omega
    rw [← hlaw]
    have okD : OkS m c (doneP wd m p.2.2 q.2.2) := fun r hr => by
      rw [hlaw] at hr
      exact mem_rowsP.mp (List.mem_filter.mp hr).1
    have sD : Sorted (doneP wd m p.2.2 q.2.2) := done_sorted hwd hpok hps hqs
    generalize hDn : doneP wd m p.2.2 q.2.2 = S at okD sD
    have zS := ok_27 hm3 hc.2 okD (sorted_nodup sD)
    -- found
    refine bg_assign HI hO stJ (r := rowsT S) (ev_eq (ev_call HI (ev_glob G HI hado rfl rfl) hCdo (evl_cons (by first | exact ev_local (by assumption) rfl rfl rfl | exact ev_cell' (by assumption) rfl rfl rfl rfl) rfl (evl_cons (by first | exact ev_local (by assumption) rfl rfl rfl | exact ev_cell' (by assumption) rfl rfl rfl rfl) rfl (evl_cons (ev_part (k := 1) (p := p) (by first | exact ev_local (by assumption) rfl rfl rfl | exact ev_cell' (by assumption) rfl rfl rfl rfl) ev_int rfl (by decide) (fun _ _ => rfl)) rfl (evl_cons (ev_part (k := 1) (p := q) (by first | exact ev_local (by assumption) rfl rfl rfl | exact ev_cell' (by assumption) rfl rfl rfl rfl) ev_int rfl (by decide) (fun _ _ => rfl)) rfl evl_nil))))
      (c_done G (hA'.le (by decide)) hado hm3 ⟨hpa1, hpa3⟩ ⟨hqa1, hqa3⟩ hwd hfit hpok hqok hps hqs) rfl) (by rw [hDn])) (.inl rfl) rfl ?_
    -- beside
    obtain ⟨o, ho, hoc⟩ := hHas c hc.1 hc.2
    have hfne : pool.filter (fun o => decide ((o.2.1 : Int) = c)) ≠ [] := List.ne_nil_of_mem (List.mem_filter.mpr ⟨ho, decide_eq_true (by omega)⟩)
    obtain ⟨bs, bl, hbs⟩ : ∃ bs bl, pool.filter (fun o => decide ((o.2.1 : Int) = c)) = bs :: bl := by
      cases e : pool.filter (fun o => decide ((o.2.1 : Int) = c)) with
      | nil => exact absurd e hfne
      | cons x l => exact ⟨x, l, rfl⟩
    have hbm := List.mem_filter.mp (show bs ∈ pool.filter (fun o => decide ((o.2.1 : Int) = c)) by rw [hbs]; exact List.mem_cons_self)
    obtain ⟨hba1, hba3, hbok, hbsd⟩ := hpg bs hbm.1
    refine bgj_assign HI hO stJ (r := encE bs) (evj_mono (J := fun h => Acc (fun b => ((X' b ∨ b = T) ∨ b = D) ∨ b = I) h D (pool.map encE)) (evj_the (x := "pool") rfl hbm.1 (ev_itemL (k := 0) (l := (pool.filter fun o => decide ((o.2.1 : Int) = c)).map encE) (ev_cp HY hh (cp_filter (xs := pool) (enc := encE) (f := encE) (pz := fun o => decide ((o.2.1 : Int) = c)) (bd := fun o => [("other", encE o), ("arity", .int c)]) (src := .list (pool.map encE)) (fun _ => rfl) rfl rfl (by decide) (by first | exact ev_local (by assumption) rfl rfl rfl | exact ev_cell' (by assumption) rfl rfl rfl rfl) (.list _) (by omega) fun C Y HC o ho => ?_)) ev_int (by rw [hbs]; rfl) (by decide) (fun _ _ => rfl))) fun h j => j.2) (.inl rfl) rfl ?_
    · exact ⟨asg_nm HC rfl, sub_cons rfl, tr_cmp HC (ev_part (k := 0) (p := o) (by first | exact ev_local (by assumption) rfl rfl rfl | exact ev_cell' (by assumption) rfl rfl rfl rfl) ev_int rfl (by decide) (fun _ _ => rfl)) (by first | exact ev_local (by assumption) rfl rfl rfl | exact ev_cell' (by assumption) rfl rfl rfl rfl) op_eq rfl, (by first | exact ev_local (by assumption) rfl rfl rfl | exact ev_cell' (by assumption) rfl rfl rfl rfl)⟩
    -- the test
    refine bgj_if_next (b := false) (J' := fun h => Tape prog w T cv cells s' (fun b => ((X' b ∨ b = T) ∨ b = D) ∨ b = I) h ∧ Acc (fun b => ((X' b ∨ b = T) ∨ b = D) ∨ b = I) h D (pool.map encE)) stJ (tr_j (tr_eq (tr_not (tr_ev (ev_call HI (ev_glob G HI haw rfl rfl) hCw (evl_cons (by first | exact ev_local (by assumption) rfl rfl rfl | exact ev_cell' (by assumption) rfl rfl rfl rfl) rfl (evl_cons (by first | exact ev_local (by assumption) rfl rfl rfl | exact ev_cell' (by assumption) rfl rfl rfl rfl) rfl (evl_cons (by first | exact ev_local (by assumption) rfl rfl rfl | exact ev_cell' (by assumption) rfl rfl rfl rfl) rfl (evl_cons (ev_part (k := 1) (p := bs) (by first | exact ev_local (by assumption) rfl rfl rfl | exact ev_cell' (by assumption) rfl rfl rfl rfl) ev_int rfl (by decide) (fun _ _ => rfl)) rfl evl_nil)))) (c_whole G (hA'.le (by decide)) haw hm3 hc ⟨hba1, hba3⟩ okD sD hbok hbsd) rfl) rfl)) rfl)) (fun h => nomatch h) (fun _ _ j => j) ?_
    refine bg_append_the (r := itemA c S) HI (.inl (.inr rfl)) hDO (.inr rfl) (stT _) (tape_keep (.inl (.inr rfl)) hDT) (by rw [List.length_map]; omega) (by first | exact ev_local (by assumption) rfl rfl rfl | exact ev_cell' (by assumption) rfl rfl rfl rfl) (ev_tuple HI (evl_cons (by first | exact ev_local (by assumption) rfl rfl rfl | exact ev_cell' (by assumption) rfl rfl rfl rfl) rfl (evl_cons (by first | exact ev_local (by assumption) rfl rfl rfl | exact ev_cell' (by assumption) rfl rfl rfl rfl) rfl (evl_cons (by first | exact ev_local (by assumption) rfl rfl rfl | exact ev_cell' (by assumption) rfl rfl rfl rfl) rfl (evl_cons (r := .rows S) (ev_eq (ev_call HI (ev_glob G HI hak rfl rfl) hCk (evl_cons (by first | exact ev_local (by assumption) rfl rfl rfl | exact ev_cell' (by assumption) rfl rfl rfl rfl) rfl evl_nil) (c_known G (hA'.le (by decide)) hak (by omega)) rfl) (by rw [firsts_eq (sorted_nodup sD)])) rfl evl_nil)))) (by simp)) rfl rfl rfl rfl rfl fun u => ?_
    exact bg_nil fun h St' j => ⟨rfl, St'.sub (ask_lookup ⟨rfl, rfl, rfl, trivial⟩), (s', pool ++ [(u, c, S)]), ⟨by dsimp only; omega, by simp; omega, hpg.snoc ⟨hc.1, hc.2, okD, sD⟩, hHas.app _⟩, j.1, by rw [List.map_append]; exact j.2⟩
  · -- the end
    obtain ⟨kx, hkx, rfl⟩ := hxs
    rw [List.length_range]
    refine bg_ex fun q => bg_prop fun hq => ?_
    obtain ⟨sp, pool⟩ := q
    obtain ⟨hsp, hpl, hpg, hHas⟩ := hq
    dsimp only at hsp hpl hpg hHas ⊢
    have HY := Fm.sub (D := D) HD hDO
    have hnil : pool.filter (fun o : Entry => decide (o.2.2 ≠ o.2.2)) = [] := by rw [List.filter_eq_nil_iff]; intro x _; simp
    refine bgj_ret (r := .bool true) (stj_and (stT2 _) (stA2 _)) (evj_mono (J := fun h => Acc (fun b => (X' b ∨ b = T) ∨ b = D) h D (pool.map encE)) (evj_bool (x := "pool") rfl (ev_eq (ev_cmp HY (ev_cp HY hh (cp_filter (xs := pool) (enc := encE) (f := encE) (pz := fun o => decide (o.2.2 ≠ o.2.2)) (bd := fun o => [("one", encE o)]) (src := .list (pool.map encE)) (fun _ => rfl) rfl rfl (by decide) (by first | exact ev_local (by assumption) rfl rfl rfl | exact ev_cell' (by assumption) rfl rfl rfl rfl) (.list _) (by omega) fun C Y HC o ho => ?_)) (ev_list HY evl_nil (by simp)) (op_eq_nil hA') rfl) (by rw [hnil]; rfl))) fun h j => j.2) fun h v St' j r => ⟨v, rfl, ?_⟩
    · have zo := let ⟨h1, h2, h3, h4⟩ := hpg o ho; ok_27 hm3 h2 h3 (sorted_nodup h4)
      exact ⟨asg_nm HC rfl, sub_cons rfl, tr_cmp HC (ev_part (k := 1) (p := o) (by first | exact ev_local (by assumption) rfl rfl rfl | exact ev_cell' (by assumption) rfl rfl rfl rfl) ev_int rfl (by decide) (fun _ _ => rfl)) (ev_call HC (by exact ev_boot (by assumption) (by assumption) (by simp [bnames]) rfl rfl rfl) (.inr (.inl ⟨_, rfl⟩)) (evl_cons (ev_part (k := 2) (p := o) (by first | exact ev_local (by assumption) rfl rfl rfl | exact ev_cell' (by assumption) rfl rfl rfl rfl) ev_int rfl (by decide) (fun _ _ => rfl)) rfl evl_nil) (cl_tuple (by rw [List.length_map]; omega)) rfl) (op_ne_rows (S := o.2.2) (T := o.2.2) hA') rfl, (by first | exact ev_local (by assumption) rfl rfl rfl | exact ev_cell' (by assumption) rfl rfl rfl rfl)⟩
    · simp only [Rel] at r ⊢; exact r
end
end Mine
end

section
open PySem PySem.W PyProof.Rows
set_option Elab.async false
set_option maxRecDepth 100000
namespace Mine
theorem rel_well {P : Params} {h : Heap} {v : Value} {ns : List Int} {X : Addr → Prop} (hX : ∀ b, ¬ X b) (W : Well P h v (ofPy (PyData.list (ns.map PyData.int)))) : Rel X h (.list (intsA ns)) v := by
  have key : ∀ (ns : List Int) (vs : List Value), WellAll P h vs (ofPys (ns.map PyData.int)) → RelL X h (intsA ns) vs := by
    intro ns
    induction ns with
    | nil => intro vs w; cases w; simp only [List.map_nil, RelL]
    | cons i ns ih =>
      intro vs w
      cases w with
      | cons w1 w2 =>
        cases w1
        exact ⟨⟨_, rfl⟩, ih _ w2⟩
  change Well P h v (.list (ofPys (ns.map PyData.int))) at W
  cases W with
  | list ho w => exact ⟨_, _, _, rfl, hX _, ho, key ns _ w⟩
theorem gnd_of {p : Program} {lo : List Str} {mean : ExcName → Option Value} {mg mb : Str → Option Value} {h : Heap} (T : Top p lo mean mg mb h) (hr : recsOf p = recs) (hi : importsNone p = true)
    (hb : (bnames.all fun x => !(startupNames.contains x) && !(lo.contains x) && !(((recsOf p).map (·.name)).contains x) && !(((litsOf p).map (·.1)).contains x) && !(((clssOf p lo).map (·.name)).contains x) && !(x == "__name__")) = true) : Gnd h mg mb where
  ns := T.g
  bs := T.b
  nl := T.nolimit
  sy := let ⟨_, ⟨o, _, _, ho, _⟩, _⟩ := (T.seer hi).mods; ⟨o, ho⟩
  fn := fun d hd => T.fn d (hr ▸ hd)
  bi := fun x hx => by
    have := List.all_eq_true.mp hb x hx
    simp only [Bool.and_eq_true, Bool.not_eq_true', List.contains_eq_mem, decide_eq_false_iff_not, beq_eq_false_iff_ne] at this
    obtain ⟨⟨⟨⟨⟨h1, h2⟩, h3⟩, h4⟩, h5⟩, h6⟩ := this
    exact ⟨T.free x h1 h2 h3 h4 h5, T.builtins x h6⟩
theorem law_end {prog : Program} {w : World} {c : ClaimW} {cl : Str → Option Addr} {mean : ExcName → Option Value} {args : List WData} {s₁ : Shared} {mg mb : Str → Option Value} {fa a : Addr} {P : Params} {ns : List Int}
    (G : Gnd s₁.heap mg mb) (ha : mg Flaw.name = some (.ref fa)) (hns : ns.length ≤ 1000) (W : Well P s₁.heap (.ref a) (ofPy (PyData.list (ns.map PyData.int)))) (hg : s₁.gens = #[])
    (hn : ∀ cls, c.raises args cls = false) (hp : c.post args (.bool true) args = true) :
    wpAny (model prog w) callerA (call (.ref fa) [.ref a]) (fun v s' => GoodWG c cl mean args s₁ (.ok (.ret v)) s') (fun e s' => GoodWG c cl mean args s₁ (.error e) s') s₁ := by
  have R : Room 19 callerA := ⟨rfl, by decide +kernel, by decide +kernel⟩
  refine wpAny_mono (c_law (prog := prog) (w := w) (X := fun _ => False) G R ha hns s₁ [.ref a] (fun _ _ e => e) (fun b hb => hb.elim) ⟨rel_well (fun _ h => h) W, trivial⟩) (fun v s' ⟨k, r⟩ => ?_) fun _ _ e => e.elim
  simp only [Rel] at r
  subst r
  obtain ⟨h', tk, rfl, kk⟩ := k
  exact GoodW.toG ⟨.inl ⟨_, _, [], rfl, hn, .bool true, hp, fun _ => ⟨List.nodup_nil, fun _ h => nomatch h⟩⟩, kk, rfl, hg⟩
end Mine
end

section
open PySem PySem.W PyProof.Rows
set_option Elab.async false
set_option maxRecDepth 100000
namespace Mine
noncomputable def view : Program := { P0 with main := { P0.main with body := (P0.main.body.take 16).drop 1 ++ P0.main.body.drop 17 } }
noncomputable def Xv (s : Shared) : Bool := xlAt view [] s && recOk (RowW.records (OpenRow.toRowW PySem.Challenge.rw_nu0264_01.row)) s
theorem left_ok : LeftO P0 view [] Xv (Hook.obs Hook.none) (Hook.val Hook.none) 1602 := fun w => by
  kernel_rfl
end Mine
end

set_option maxRecDepth 100000 in
set_option maxHeartbeats 8000000 in
theorem PySem.Challenge.cw_nu0264_01_holds : PySem.Challenge.rw_nu0264_01.Holds := by
  w_on
  o_law
  refine holds_open (q := Mine.view) (loose := []) (Xt := Mine.Xv) (XP := XL Mine.view []) (Yf := Hook.obs Hook.none) (Ya := Hook.val Hook.none) (YP := Hook.says Hook.none) (N := 1602) Mine.left_ok (Hook.of Hook.none) (Hook.keeps Hook.none) (fun s e => xl_of s (Bool.and_eq_true_iff.mp e).1) XL.keeps (by rfl) (by rfl) (by rfl) (fun s e => recFacts_of (Bool.and_eq_true_iff.mp e).2) (by rfl) (by first | assumption | decide +kernel) (by decide +kernel) ⟨rfl, rfl, rfl, rfl, rfl, by decide +kernel⟩ ?hw ?hc
  case hw => w_witness2
  w_strict (
    intro w s₀ s₁ mg mb G Y fa o pm cd doc dV kV ho hd hcd hD hmg hg args vals as hpre hlay hrd hwl hlo
    have T := PySem.W.Ground.T G
    clear Y ho hd hcd hD G
    wrow_args hpre hlay hrd hwl hlo
    all_goals (
      refine Mine.law_end (Mine.gnd_of T (by kernel_rfl) (by decide +kernel) (by decide +kernel)) hmg ?_ (by with_reducible assumption) hg ?_ ?_)
    · exact Nat.le_trans (by omega) (show 63 ≤ 1000 by decide)
    · exact raisesW_false (by wrow_none_raised)
    · wrow_post)
