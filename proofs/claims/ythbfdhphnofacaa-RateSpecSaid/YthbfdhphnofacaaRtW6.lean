/- The walks, printed by a program from the translation and a specification. -/
import Derived.Test.YthbfdhphnofacaaRtF
import Derived.Test.YthbfdhphnofacaaRtPure
import Derived.Test.YthbfdhphnofacaaRtW5
import Derived.Test.YthbfdhphnofacaaRtW4
import Derived.Test.YthbfdhphnofacaaRtLaw
namespace Go.Proofs.Ythbfdhphnofacaa
open Go.Sx Go.RowKit
set_option maxHeartbeats 8000000 in
set_option maxRecDepth 100000 in
theorem rateSpec_ok (b : DBucket) (most : Int) (every : Int) (at_ : Int) (many : Int) : Fn0 Try.prog 11 [.agg #[.int .i64 b.most, .int .i64 b.every, .int .i64 b.has, .int .i64 b.at_], .int .i64 most, .int .i64 every, .int .i64 at_, .int .i64 many] (fun _ => True) (.bool true) := by
  refine fn0 (nt := 168) (F0 := [(0, .agg #[.int .i64 b.most, .int .i64 b.every, .int .i64 b.has, .int .i64 b.at_]), (1, .int .i64 most), (2, .int .i64 every), (3, .int .i64 at_), (4, .int .i64 many)]) Try.func11 rfl Try.ntmps11 rfl rfl (fun w0 hpre => ?_)
  refine c_seq ?_
  refine c_region ?_
  refine o_box (v := .agg #[.int .i64 b.most, .int .i64 b.every, .int .i64 b.has, .int .i64 b.at_]) rfl rfl (fun B1 => ?_)
  refine o_pure (p_assign (v := .bool false) rfl) rfl rfl rfl ?_
  refine o_nil ?_
  refine q_then ?_
  refine c_seq ?_
  refine c_region ?_
  refine o_pure (p_move (v := .int .i64 most) rfl) rfl rfl rfl ?_
  refine o_pure (p_move (v := .int .i64 every) rfl) rfl rfl rfl ?_
  refine o_pure (p_move (v := .int .i64 at_) rfl) rfl rfl rfl ?_
  refine o_call0 (v := .tuple #[.agg #[.int .i64 ((Rate.new most every at_).most), .int .i64 ((Rate.new most every at_).every), .int .i64 ((Rate.new most every at_).has), .int .i64 ((Rate.new most every at_).at_)], .int .i64 (Rate.check0 (Rate.full most every at_))]) rfl (new_ok most every at_) hf33 (fun _ _ => trivial) rfl ?_
  refine o_pure (p_move (v := .tuple #[.agg #[.int .i64 ((Rate.new most every at_).most), .int .i64 ((Rate.new most every at_).every), .int .i64 ((Rate.new most every at_).has), .int .i64 ((Rate.new most every at_).at_)], .int .i64 (Rate.check0 (Rate.full most every at_))]) rfl) rfl rfl rfl ?_
  refine o_pure (p_extract (vs := [.agg #[.int .i64 ((Rate.new most every at_).most), .int .i64 ((Rate.new most every at_).every), .int .i64 ((Rate.new most every at_).has), .int .i64 ((Rate.new most every at_).at_)], .int .i64 (Rate.check0 (Rate.full most every at_))]) (v := .agg #[.int .i64 ((Rate.new most every at_).most), .int .i64 ((Rate.new most every at_).every), .int .i64 ((Rate.new most every at_).has), .int .i64 ((Rate.new most every at_).at_)]) rfl rfl) rfl rfl rfl ?_
  refine o_pure (p_extract (vs := [.agg #[.int .i64 ((Rate.new most every at_).most), .int .i64 ((Rate.new most every at_).every), .int .i64 ((Rate.new most every at_).has), .int .i64 ((Rate.new most every at_).at_)], .int .i64 (Rate.check0 (Rate.full most every at_))]) (v := .int .i64 (Rate.check0 (Rate.full most every at_))) rfl rfl) rfl rfl rfl ?_
  refine o_alloc ze53 rfl (fun B2 => ?_)
  refine o_storeN (i := 0) (vs := [.int .i64 ((Rate.new most every at_).most), .int .i64 ((Rate.new most every at_).every), .int .i64 ((Rate.new most every at_).has), .int .i64 ((Rate.new most every at_).at_)]) (cs' := [.int .i64 ((Rate.new most every at_).most), .int .i64 ((Rate.new most every at_).every), .int .i64 ((Rate.new most every at_).has), .int .i64 ((Rate.new most every at_).at_)]) rfl rfl rfl sz53 rfl rfl rfl rfl ?_
  refine o_pure (p_assign (v := .int .i64 (Rate.check0 (Rate.full most every at_))) rfl) rfl rfl rfl ?_
  refine o_nil ?_
  refine q_then ?_
  refine c_seq ?_
  refine c_region ?_
  refine o_pure (p_load_agg (i := 1) (vs := [.int .i64 b.most, .int .i64 b.every, .int .i64 b.has, .int .i64 b.at_]) rfl rfl sh53 rfl rfl) rfl rfl rfl ?_
  refine o_pure (p_move (v := .int .i64 at_) rfl) rfl rfl rfl ?_
  refine o_call0 (v := .tuple #[.agg #[.int .i64 ((Rate.advance b at_).most), .int .i64 ((Rate.advance b at_).every), .int .i64 ((Rate.advance b at_).has), .int .i64 ((Rate.advance b at_).at_)], .int .i64 (Rate.check b at_)]) rfl (advance_ok b at_) hf34 (fun _ _ => trivial) rfl ?_
  refine o_pure (p_move (v := .tuple #[.agg #[.int .i64 ((Rate.advance b at_).most), .int .i64 ((Rate.advance b at_).every), .int .i64 ((Rate.advance b at_).has), .int .i64 ((Rate.advance b at_).at_)], .int .i64 (Rate.check b at_)]) rfl) rfl rfl rfl ?_
  refine o_pure (p_extract (vs := [.agg #[.int .i64 ((Rate.advance b at_).most), .int .i64 ((Rate.advance b at_).every), .int .i64 ((Rate.advance b at_).has), .int .i64 ((Rate.advance b at_).at_)], .int .i64 (Rate.check b at_)]) (v := .agg #[.int .i64 ((Rate.advance b at_).most), .int .i64 ((Rate.advance b at_).every), .int .i64 ((Rate.advance b at_).has), .int .i64 ((Rate.advance b at_).at_)]) rfl rfl) rfl rfl rfl ?_
  refine o_pure (p_extract (vs := [.agg #[.int .i64 ((Rate.advance b at_).most), .int .i64 ((Rate.advance b at_).every), .int .i64 ((Rate.advance b at_).has), .int .i64 ((Rate.advance b at_).at_)], .int .i64 (Rate.check b at_)]) (v := .int .i64 (Rate.check b at_)) rfl rfl) rfl rfl rfl ?_
  refine o_alloc ze53 rfl (fun B3 => ?_)
  refine o_storeN (i := 0) (vs := [.int .i64 ((Rate.advance b at_).most), .int .i64 ((Rate.advance b at_).every), .int .i64 ((Rate.advance b at_).has), .int .i64 ((Rate.advance b at_).at_)]) (cs' := [.int .i64 ((Rate.advance b at_).most), .int .i64 ((Rate.advance b at_).every), .int .i64 ((Rate.advance b at_).has), .int .i64 ((Rate.advance b at_).at_)]) rfl rfl rfl sz53 rfl rfl rfl rfl ?_
  refine o_pure (p_assign (v := .int .i64 (Rate.check b at_)) rfl) rfl rfl rfl ?_
  refine o_nil ?_
  refine q_then ?_
  refine c_seq ?_
  refine c_region ?_
  refine o_pure (p_load_agg (i := 2) (vs := [.int .i64 b.most, .int .i64 b.every, .int .i64 b.has, .int .i64 b.at_]) rfl rfl sh53 rfl rfl) rfl rfl rfl ?_
  refine o_pure (p_move (v := .int .i64 at_) rfl) rfl rfl rfl ?_
  refine o_pure (p_move (v := .int .i64 many) rfl) rfl rfl rfl ?_
  refine o_call0 (v := .tuple #[.agg #[.int .i64 ((Rate.take b at_ many).most), .int .i64 ((Rate.take b at_ many).every), .int .i64 ((Rate.take b at_ many).has), .int .i64 ((Rate.take b at_ many).at_)], .bool (Rate.can b at_ many), .int .i64 (Rate.err b at_ many)]) rfl (take_ok b at_ many) hf35 (fun _ _ => trivial) rfl ?_
  refine o_pure (p_move (v := .tuple #[.agg #[.int .i64 ((Rate.take b at_ many).most), .int .i64 ((Rate.take b at_ many).every), .int .i64 ((Rate.take b at_ many).has), .int .i64 ((Rate.take b at_ many).at_)], .bool (Rate.can b at_ many), .int .i64 (Rate.err b at_ many)]) rfl) rfl rfl rfl ?_
  refine o_pure (p_extract (vs := [.agg #[.int .i64 ((Rate.take b at_ many).most), .int .i64 ((Rate.take b at_ many).every), .int .i64 ((Rate.take b at_ many).has), .int .i64 ((Rate.take b at_ many).at_)], .bool (Rate.can b at_ many), .int .i64 (Rate.err b at_ many)]) (v := .agg #[.int .i64 ((Rate.take b at_ many).most), .int .i64 ((Rate.take b at_ many).every), .int .i64 ((Rate.take b at_ many).has), .int .i64 ((Rate.take b at_ many).at_)]) rfl rfl) rfl rfl rfl ?_
  refine o_pure (p_extract (vs := [.agg #[.int .i64 ((Rate.take b at_ many).most), .int .i64 ((Rate.take b at_ many).every), .int .i64 ((Rate.take b at_ many).has), .int .i64 ((Rate.take b at_ many).at_)], .bool (Rate.can b at_ many), .int .i64 (Rate.err b at_ many)]) (v := .bool (Rate.can b at_ many)) rfl rfl) rfl rfl rfl ?_
  refine o_pure (p_extract (vs := [.agg #[.int .i64 ((Rate.take b at_ many).most), .int .i64 ((Rate.take b at_ many).every), .int .i64 ((Rate.take b at_ many).has), .int .i64 ((Rate.take b at_ many).at_)], .bool (Rate.can b at_ many), .int .i64 (Rate.err b at_ many)]) (v := .int .i64 (Rate.err b at_ many)) rfl rfl) rfl rfl rfl ?_
  refine o_alloc ze53 rfl (fun B4 => ?_)
  refine o_storeN (i := 0) (vs := [.int .i64 ((Rate.take b at_ many).most), .int .i64 ((Rate.take b at_ many).every), .int .i64 ((Rate.take b at_ many).has), .int .i64 ((Rate.take b at_ many).at_)]) (cs' := [.int .i64 ((Rate.take b at_ many).most), .int .i64 ((Rate.take b at_ many).every), .int .i64 ((Rate.take b at_ many).has), .int .i64 ((Rate.take b at_ many).at_)]) rfl rfl rfl sz53 rfl rfl rfl rfl ?_
  refine o_pure (p_assign (v := .bool (Rate.can b at_ many)) rfl) rfl rfl rfl ?_
  refine o_pure (p_assign (v := .int .i64 (Rate.err b at_ many)) rfl) rfl rfl rfl ?_
  refine o_nil ?_
  refine q_then ?_
  refine c_seq ?_
  refine c_region ?_
  refine o_pure (p_load_agg (i := 3) (vs := [.int .i64 b.most, .int .i64 b.every, .int .i64 b.has, .int .i64 b.at_]) rfl rfl sh53 rfl rfl) rfl rfl rfl ?_
  refine o_pure (p_move (v := .int .i64 at_) rfl) rfl rfl rfl ?_
  refine o_pure (p_move (v := .int .i64 many) rfl) rfl rfl rfl ?_
  refine o_call0 (v := .tuple #[.int .i64 (Rate.when_ b at_ many), .int .i64 (Rate.whenErr b at_ many)]) rfl (whenF_ok b at_ many) hf36 (fun _ _ => trivial) rfl ?_
  refine o_pure (p_move (v := .tuple #[.int .i64 (Rate.when_ b at_ many), .int .i64 (Rate.whenErr b at_ many)]) rfl) rfl rfl rfl ?_
  refine o_pure (p_extract (vs := [.int .i64 (Rate.when_ b at_ many), .int .i64 (Rate.whenErr b at_ many)]) (v := .int .i64 (Rate.when_ b at_ many)) rfl rfl) rfl rfl rfl ?_
  refine o_pure (p_extract (vs := [.int .i64 (Rate.when_ b at_ many), .int .i64 (Rate.whenErr b at_ many)]) (v := .int .i64 (Rate.whenErr b at_ many)) rfl rfl) rfl rfl rfl ?_
  refine o_pure (p_assign (v := .int .i64 (Rate.when_ b at_ many)) rfl) rfl rfl rfl ?_
  refine o_pure (p_assign (v := .int .i64 (Rate.whenErr b at_ many)) rfl) rfl rfl rfl ?_
  refine o_nil ?_
  refine q_then ?_
  refine c_seq ?_
  refine c_draw hmix (by kernel_rfl) ?_
  refine w_pure (p_load_agg (i := 3) (vs := [.int .i64 b.most, .int .i64 b.every, .int .i64 b.has, .int .i64 b.at_]) rfl rfl sh53 rfl rfl) rfl rfl rfl ?_
  refine w_call0 (v := .int .i64 (Rate.check0 b)) rfl (rateCheck_ok b) hf37 (fun _ _ => trivial) rfl ?_
  refine w_pure (p_load_agg (i := 3) (vs := [.int .i64 b.most, .int .i64 b.every, .int .i64 b.has, .int .i64 b.at_]) rfl rfl sh53 rfl rfl) rfl rfl rfl ?_
  refine w_pure (p_move (v := .int .i64 at_) rfl) rfl rfl rfl ?_
  refine w_call0 (v := .int .i64 (Rate.check b at_)) rfl (rateErr_ok b at_) hf38 (fun _ _ => trivial) rfl ?_
  refine w_pure (p_assign (v := .int .i64 (Rate.check0 b)) rfl) rfl rfl rfl ?_
  refine w_pure (p_assign (v := .int .i64 (Rate.check b at_)) rfl) rfl rfl rfl ?_
  refine w_nil ?_
  refine q_then ?_
  refine c_seq ?_
  refine c_region ?_
  refine o_pure (p_move (v := .int .i64 most) rfl) rfl rfl rfl ?_
  refine o_pure (p_move (v := .int .i64 every) rfl) rfl rfl rfl ?_
  refine o_pure (p_move (v := .int .i64 most) rfl) rfl rfl rfl ?_
  refine o_pure (p_move (v := .int .i64 at_) rfl) rfl rfl rfl ?_
  refine o_pure (p_build (cells := [.int .i64 most, .int .i64 every, .int .i64 most, .int .i64 at_]) fp53 ze53 rfl rfl) rfl rfl rfl ?_
  refine o_alloc ze53 rfl (fun B5 => ?_)
  refine o_storeN (i := 0) (vs := [.int .i64 most, .int .i64 every, .int .i64 most, .int .i64 at_]) (cs' := [.int .i64 most, .int .i64 every, .int .i64 most, .int .i64 at_]) rfl rfl rfl sz53 rfl rfl rfl rfl ?_
  refine o_nil ?_
  refine q_then ?_
  refine c_seq ?_
  refine c_region ?_
  refine o_pure (p_load_agg (i := 0) (vs := [.int .i64 most, .int .i64 every, .int .i64 most, .int .i64 at_]) rfl rfl sh53 rfl rfl) rfl rfl rfl ?_
  refine o_call0 (v := .int .i64 (Rate.check0 (⟨most, every, most, at_⟩ : DBucket))) rfl (rateCheck_ok (⟨most, every, most, at_⟩ : DBucket)) hf37 (fun _ _ => trivial) rfl ?_
  refine o_pure (p_assign (v := .int .i64 (Rate.check0 (⟨most, every, most, at_⟩ : DBucket))) rfl) rfl rfl rfl ?_
  refine o_nil ?_
  refine q_then ?_
  refine c_seq ?_
  refine c_seq ?_
  refine c_region ?_
  refine o_pure (p_move (v := .int .i64 (Rate.check0 (⟨most, every, most, at_⟩ : DBucket))) rfl) rfl rfl rfl ?_
  refine o_pure (p_ne (p := (Rate.check0 (⟨most, every, most, at_⟩ : DBucket))) (q := 0) rfl rfl) rfl rfl rfl ?_
  refine o_nil ?_
  refine q_then ?_
  refine c_join (G := DBucket)
    (fun fu => [(3, .int .i64 at_), (4, .int .i64 many), (5, .pointer (some ⟨B1, 0, none⟩)), (11, .pointer (some ⟨B2, 0, none⟩)), (12, .int .i64 (Rate.check0 (Rate.full most every at_))), (13, .pointer (some ⟨B3, 0, none⟩)), (14, .int .i64 (Rate.check b at_)), (15, .pointer (some ⟨B4, 0, none⟩)), (16, .bool (Rate.can b at_ many)), (17, .int .i64 (Rate.err b at_ many)), (18, .int .i64 (Rate.when_ b at_ many)), (19, .int .i64 (Rate.whenErr b at_ many)), (20, .int .i64 (Rate.check0 b)), (21, .int .i64 (Rate.check b at_)), (22, .pointer (some ⟨B5, 0, none⟩)), (23, .int .i64 (Rate.check0 (⟨most, every, most, at_⟩ : DBucket)))])
    (fun fu => [box B5 [.int .i64 fu.most, .int .i64 fu.every, .int .i64 fu.has, .int .i64 fu.at_] 53, box B4 [.int .i64 ((Rate.take b at_ many).most), .int .i64 ((Rate.take b at_ many).every), .int .i64 ((Rate.take b at_ many).has), .int .i64 ((Rate.take b at_ many).at_)] 53, box B3 [.int .i64 ((Rate.advance b at_).most), .int .i64 ((Rate.advance b at_).every), .int .i64 ((Rate.advance b at_).has), .int .i64 ((Rate.advance b at_).at_)] 53, box B2 [.int .i64 ((Rate.new most every at_).most), .int .i64 ((Rate.new most every at_).every), .int .i64 ((Rate.new most every at_).has), .int .i64 ((Rate.new most every at_).at_)] 53, box B1 [.int .i64 b.most, .int .i64 b.every, .int .i64 b.has, .int .i64 b.at_] 53, base w0])
    (fun fu => fu = Rate.new most every at_)
    (fun K hK6 => ?_) ?_
  · refine c_cond (b := ((Rate.check0 (⟨most, every, most, at_⟩ : DBucket)) != 0)) rfl (fun hc7 => ?_) (fun hc7 => ?_)
    · simp only [bne_iff_ne, ne_eq] at hc7
      refine c_region ?_
      refine o_pure (p_build (cells := [.int .i64 0, .int .i64 0, .int .i64 0, .int .i64 0]) fp53 ze53 rfl rfl) rfl rfl rfl ?_
      refine o_storeN (i := 0) (vs := [.int .i64 0, .int .i64 0, .int .i64 0, .int .i64 0]) (cs' := [.int .i64 0, .int .i64 0, .int .i64 0, .int .i64 0]) rfl rfl rfl sz53 rfl rfl rfl rfl ?_
      refine o_nil ?_
      refine q_join hK6 (⟨0, 0, 0, 0⟩ : DBucket) ?_ (Sub.cons rfl (Sub.cons rfl (Sub.cons rfl (Sub.cons rfl (Sub.cons rfl (Sub.cons rfl (Sub.cons rfl (Sub.cons rfl (Sub.cons rfl (Sub.cons rfl (Sub.cons rfl (Sub.cons rfl (Sub.cons rfl (Sub.cons rfl (Sub.cons rfl (Sub.cons rfl (Sub.nil _))))))))))))))))) (fun _ hw => HeapIs.drop hw (List.Sublist.refl _))
      clear hK6
      first | exact (if_pos (by assumption)).symm | exact (if_neg (by assumption)).symm
    · simp only [bne_eq_false_iff_eq] at hc7
      refine c_skip ?_
      refine q_join hK6 (⟨most, every, most, at_⟩ : DBucket) ?_ (Sub.cons rfl (Sub.cons rfl (Sub.cons rfl (Sub.cons rfl (Sub.cons rfl (Sub.cons rfl (Sub.cons rfl (Sub.cons rfl (Sub.cons rfl (Sub.cons rfl (Sub.cons rfl (Sub.cons rfl (Sub.cons rfl (Sub.cons rfl (Sub.cons rfl (Sub.cons rfl (Sub.nil _))))))))))))))))) (fun _ hw => HeapIs.drop hw (List.Sublist.refl _))
      clear hK6
      first | exact (if_pos (by assumption)).symm | exact (if_neg (by assumption)).symm
  rintro fu hJ
  show SQ 168 w0 _ _ [(3, .int .i64 at_), (4, .int .i64 many), (5, .pointer (some ⟨B1, 0, none⟩)), (11, .pointer (some ⟨B2, 0, none⟩)), (12, .int .i64 (Rate.check0 (Rate.full most every at_))), (13, .pointer (some ⟨B3, 0, none⟩)), (14, .int .i64 (Rate.check b at_)), (15, .pointer (some ⟨B4, 0, none⟩)), (16, .bool (Rate.can b at_ many)), (17, .int .i64 (Rate.err b at_ many)), (18, .int .i64 (Rate.when_ b at_ many)), (19, .int .i64 (Rate.whenErr b at_ many)), (20, .int .i64 (Rate.check0 b)), (21, .int .i64 (Rate.check b at_)), (22, .pointer (some ⟨B5, 0, none⟩)), (23, .int .i64 (Rate.check0 (⟨most, every, most, at_⟩ : DBucket)))] [box B5 [.int .i64 fu.most, .int .i64 fu.every, .int .i64 fu.has, .int .i64 fu.at_] 53, box B4 [.int .i64 ((Rate.take b at_ many).most), .int .i64 ((Rate.take b at_ many).every), .int .i64 ((Rate.take b at_ many).has), .int .i64 ((Rate.take b at_ many).at_)] 53, box B3 [.int .i64 ((Rate.advance b at_).most), .int .i64 ((Rate.advance b at_).every), .int .i64 ((Rate.advance b at_).has), .int .i64 ((Rate.advance b at_).at_)] 53, box B2 [.int .i64 ((Rate.new most every at_).most), .int .i64 ((Rate.new most every at_).every), .int .i64 ((Rate.new most every at_).has), .int .i64 ((Rate.new most every at_).at_)] 53, box B1 [.int .i64 b.most, .int .i64 b.every, .int .i64 b.has, .int .i64 b.at_] 53, base w0]
  refine q_then ?_
  refine c_seq ?_
  refine c_region ?_
  refine o_pure (p_move (v := .int .i64 (Rate.check b at_)) rfl) rfl rfl rfl ?_
  refine o_pure (p_move (v := .int .i64 (Rate.check b at_)) rfl) rfl rfl rfl ?_
  refine o_pure (p_assign (v := .int .i64 (Rate.check b at_)) rfl) rfl rfl rfl ?_
  refine o_pure (p_assign (v := .int .i64 (Rate.check b at_)) rfl) rfl rfl rfl ?_
  refine o_nil ?_
  refine q_then ?_
  refine c_seq ?_
  refine c_region ?_
  refine o_alloc ze53 rfl (fun B8 => ?_)
  refine o_alloc ze53 rfl (fun B9 => ?_)
  refine o_nil ?_
  refine q_then ?_
  refine c_seq ?_
  refine c_region ?_
  refine o_pure (p_assign (v := .bool false) rfl) rfl rfl rfl ?_
  refine o_pure (p_assign (v := .int .i64 0) rfl) rfl rfl rfl ?_
  refine o_nil ?_
  refine q_then ?_
  refine c_seq ?_
  refine c_seq ?_
  refine c_region ?_
  refine o_pure (p_move (v := .int .i64 (Rate.check b at_)) rfl) rfl rfl rfl ?_
  refine o_pure (p_eq (p := (Rate.check b at_)) (q := 0) rfl rfl) rfl rfl rfl ?_
  refine o_nil ?_
  refine q_then ?_
  refine c_join (G := Int × Int × Bool × Int × DBucket × DBucket)
    (fun ⟨u, o, can, whn, go_, tk⟩ => [(5, .pointer (some ⟨B1, 0, none⟩)), (11, .pointer (some ⟨B2, 0, none⟩)), (12, .int .i64 (Rate.check0 (Rate.full most every at_))), (13, .pointer (some ⟨B3, 0, none⟩)), (14, .int .i64 (Rate.check b at_)), (15, .pointer (some ⟨B4, 0, none⟩)), (16, .bool (Rate.can b at_ many)), (17, .int .i64 (Rate.err b at_ many)), (18, .int .i64 (Rate.when_ b at_ many)), (19, .int .i64 (Rate.whenErr b at_ many)), (20, .int .i64 (Rate.check0 b)), (21, .int .i64 (Rate.check b at_)), (22, .pointer (some ⟨B5, 0, none⟩)), (23, .int .i64 (Rate.check0 (⟨most, every, most, at_⟩ : DBucket))), (24, .int .i64 u), (25, .int .i64 o), (26, .pointer (some ⟨B8, 0, none⟩)), (27, .pointer (some ⟨B9, 0, none⟩)), (28, .bool can), (29, .int .i64 whn)])
    (fun ⟨u, o, can, whn, go_, tk⟩ => [box B9 [.int .i64 tk.most, .int .i64 tk.every, .int .i64 tk.has, .int .i64 tk.at_] 53, box B8 [.int .i64 go_.most, .int .i64 go_.every, .int .i64 go_.has, .int .i64 go_.at_] 53, box B5 [.int .i64 fu.most, .int .i64 fu.every, .int .i64 fu.has, .int .i64 fu.at_] 53, box B4 [.int .i64 ((Rate.take b at_ many).most), .int .i64 ((Rate.take b at_ many).every), .int .i64 ((Rate.take b at_ many).has), .int .i64 ((Rate.take b at_ many).at_)] 53, box B3 [.int .i64 ((Rate.advance b at_).most), .int .i64 ((Rate.advance b at_).every), .int .i64 ((Rate.advance b at_).has), .int .i64 ((Rate.advance b at_).at_)] 53, box B2 [.int .i64 ((Rate.new most every at_).most), .int .i64 ((Rate.new most every at_).every), .int .i64 ((Rate.new most every at_).has), .int .i64 ((Rate.new most every at_).at_)] 53, box B1 [.int .i64 b.most, .int .i64 b.every, .int .i64 b.has, .int .i64 b.at_] 53, base w0])
    (fun ⟨u, o, can, whn, go_, tk⟩ => go_ = Rate.advance b at_ ∧ tk = Rate.take b at_ many ∧ can = Rate.can b at_ many ∧ u = Rate.err b at_ many ∧ o = Rate.whenErr b at_ many ∧ whn = Rate.when_ b at_ many)
    (fun K hK10 => ?_) ?_
  · refine c_cond (b := ((Rate.check b at_) == 0)) rfl (fun hc11 => ?_) (fun hc11 => ?_)
    · simp only [beq_iff_eq] at hc11
      refine c_seq ?_
      refine c_region ?_
      refine o_pure (p_load_agg (i := 6) (vs := [.int .i64 b.most, .int .i64 b.every, .int .i64 b.has, .int .i64 b.at_]) rfl rfl sh53 rfl rfl) rfl rfl rfl ?_
      refine o_pure (p_move (v := .int .i64 at_) rfl) rfl rfl rfl ?_
      refine o_call0 (v := .agg #[.int .i64 ((Rate.rgo b at_).most), .int .i64 ((Rate.rgo b at_).every), .int .i64 ((Rate.rgo b at_).has), .int .i64 ((Rate.rgo b at_).at_)]) rfl (rateGo_ok b at_ (by first | assumption | exact Rate.check_every (by assumption) | exact Rate.check_every (by omega) | (rename_i hh; exact Rate.check_every hh.1))) hf39 (fun _ _ => trivial) rfl ?_
      refine o_storeN (i := 1) (vs := [.int .i64 ((Rate.rgo b at_).most), .int .i64 ((Rate.rgo b at_).every), .int .i64 ((Rate.rgo b at_).has), .int .i64 ((Rate.rgo b at_).at_)]) (cs' := [.int .i64 ((Rate.rgo b at_).most), .int .i64 ((Rate.rgo b at_).every), .int .i64 ((Rate.rgo b at_).has), .int .i64 ((Rate.rgo b at_).at_)]) rfl rfl rfl sz53 rfl rfl rfl rfl ?_
      refine o_nil ?_
      refine q_then ?_
      refine c_seq ?_
      refine c_region ?_
      refine o_pure (p_move (v := .int .i64 many) rfl) rfl rfl rfl ?_
      refine o_pure (p_lt (p := many) (q := 1) rfl rfl) rfl rfl rfl ?_
      refine o_pure (p_move (v := .bool (decide (many < 1))) rfl) rfl rfl rfl ?_
      refine o_or (p := 85) 3 (decide (1048576 < many)) ?_ ?_ ?_
      · intro hb12 hk
        simp only [decide_eq_false_iff_not, Int.not_lt] at hb12
        refine o_unguard 82 rfl rfl ?_
        refine o_pure (p_move (v := .int .i64 many) rfl) rfl rfl rfl ?_
        refine o_unguard 82 rfl rfl ?_
        refine o_pure (p_gt (p := many) (q := 1048576) rfl rfl) rfl rfl rfl ?_
        refine o_pure (p_pick_false (v := .bool (decide (1048576 < many))) rfl rfl) rfl rfl rfl ?_
        exact o_sub (Sub.cons rfl (Sub.skip rfl (Sub.skip rfl (Sub.skip rfl (Sub.skip rfl (Sub.refl _)))))) hk
      · intro hb12 hk
        refine o_guard_no rfl 82 rfl rfl rfl rfl rfl ?_
        refine o_guard_no rfl 82 rfl rfl rfl rfl rfl ?_
        refine o_pure (p_pick_true (u := .bool true) rfl rfl) rfl rfl rfl ?_
        exact o_sub (Sub.cons rfl (Sub.skip rfl (Sub.skip rfl (Sub.skip rfl (Sub.skip rfl (Sub.refl _)))))) hk
      refine o_nil ?_
      refine q_then ?_
      refine c_cond (b := (decide (many < 1) || decide (1048576 < many))) rfl (fun hc13 => ?_) (fun hc13 => ?_)
      · simp only [Bool.or_eq_true, decide_eq_true_eq] at hc13
        refine c_region ?_
        refine o_pure (p_assign (v := .int .i64 3) rfl) rfl rfl rfl ?_
        refine o_pure (p_assign (v := .int .i64 3) rfl) rfl rfl rfl ?_
        refine o_nil ?_
        refine q_join hK10 (3, 3, false, 0, (Rate.rgo b at_), (⟨0, 0, 0, 0⟩ : DBucket)) ?_ (Sub.cons rfl (Sub.cons rfl (Sub.cons rfl (Sub.cons rfl (Sub.cons rfl (Sub.cons rfl (Sub.cons rfl (Sub.cons rfl (Sub.cons rfl (Sub.cons rfl (Sub.cons rfl (Sub.cons rfl (Sub.cons rfl (Sub.cons rfl (Sub.cons rfl (Sub.cons rfl (Sub.cons rfl (Sub.cons rfl (Sub.cons rfl (Sub.cons rfl (Sub.nil _))))))))))))))))))))) (fun _ hw => HeapIs.drop hw (List.Sublist.refl _))
        clear hK10
        first
          | (obtain ⟨s1, s2, s3, s4, s5, s6⟩ := Rate.spec_bad (many := many) (by assumption)
             exact ⟨s1.symm, s2.symm, s3.symm, s4.symm, s5.symm, s6.symm⟩)
          | (obtain ⟨s2, s3, s4, s5, s6⟩ := Rate.spec_many (by assumption) (by assumption)
             exact ⟨(Rate.advance_eq (by assumption)).symm, s2.symm, s3.symm, s4.symm, s5.symm, s6.symm⟩)
          | (obtain ⟨s1, s2, s3, s4⟩ := Rate.spec_right (b := b) (at_ := at_) (many := many) (by assumption) (by omega)
             first | rw [if_pos (by assumption)] at s3 s4 | rw [if_neg (by omega)] at s3 s4
             rcases s4 _ rfl with ⟨c, u1, u2⟩ | ⟨c, u1, u2⟩ <;> refine ⟨(Rate.advance_eq (by assumption)).symm, s3.symm, s2.symm, ?_, ?_, ?_⟩ <;> omega)
      · simp only [Bool.or_eq_false_iff, decide_eq_false_iff_not, Int.not_lt] at hc13
        refine c_seq ?_
        refine c_region ?_
        refine o_pure (p_load_agg (i := 1) (vs := [.int .i64 ((Rate.rgo b at_).most), .int .i64 ((Rate.rgo b at_).every), .int .i64 ((Rate.rgo b at_).has), .int .i64 ((Rate.rgo b at_).at_)]) rfl rfl sh53 rfl rfl) rfl rfl rfl ?_
        refine o_storeN (i := 0) (vs := [.int .i64 ((Rate.rgo b at_).most), .int .i64 ((Rate.rgo b at_).every), .int .i64 ((Rate.rgo b at_).has), .int .i64 ((Rate.rgo b at_).at_)]) (cs' := [.int .i64 ((Rate.rgo b at_).most), .int .i64 ((Rate.rgo b at_).every), .int .i64 ((Rate.rgo b at_).has), .int .i64 ((Rate.rgo b at_).at_)]) rfl rfl rfl sz53 rfl rfl rfl rfl ?_
        refine o_nil ?_
        refine q_then ?_
        refine c_seq ?_
        refine c_region ?_
        refine o_pure (p_fieldAddr (B := B8) (j := 0) (j' := 2) rfl fo53_2 rfl) rfl rfl rfl ?_
        refine o_pure (p_load (i := 1) (v := .int .i64 ((Rate.rgo b at_).has)) rfl rfl sh3 rfl) rfl rfl rfl ?_
        refine o_pure (p_move (v := .int .i64 many) rfl) rfl rfl rfl ?_
        refine o_pure (p_ge (p := (Rate.rgo b at_).has) (q := many) rfl rfl) rfl rfl rfl ?_
        refine o_pure (p_assign (v := .bool (decide (many ≤ (Rate.rgo b at_).has))) rfl) rfl rfl rfl ?_
        refine o_nil ?_
        refine q_then ?_
        refine c_seq ?_
        refine c_seq ?_
        refine c_region ?_
        refine o_pure (p_move (v := .bool (decide (many ≤ (Rate.rgo b at_).has))) rfl) rfl rfl rfl ?_
        refine o_nil ?_
        refine q_then ?_
        refine c_cond (b := decide (many ≤ (Rate.rgo b at_).has)) rfl (fun hc14 => ?_) (fun hc14 => ?_)
        · simp only [decide_eq_true_eq] at hc14
          refine c_seq ?_
          refine c_region ?_
          refine o_pure (p_fieldAddr (B := B9) (j := 0) (j' := 2) rfl fo53_2 rfl) rfl rfl rfl ?_
          refine o_pure (p_load (i := 0) (v := .int .i64 ((Rate.rgo b at_).has)) rfl rfl sh3 rfl) rfl rfl rfl ?_
          refine o_pure (p_move (v := .int .i64 many) rfl) rfl rfl rfl ?_
          refine o_pure (p_sub (p := (Rate.rgo b at_).has) (q := many) rfl rfl) rfl rfl rfl ?_
          refine o_pure (p_fieldAddr (B := B9) (j := 0) (j' := 2) rfl fo53_2 rfl) rfl rfl rfl ?_
          refine o_store (i := 0) (v := .int .i64 (IntKind.i64.wrap ((Rate.rgo b at_).has - many))) (cs' := [.int .i64 ((Rate.rgo b at_).most), .int .i64 ((Rate.rgo b at_).every), .int .i64 (IntKind.i64.wrap ((Rate.rgo b at_).has - many)), .int .i64 ((Rate.rgo b at_).at_)]) rfl rfl rfl sz3 rfl rfl rfl ?_
          refine o_nil ?_
          refine q_then ?_
          refine c_region ?_
          refine o_pure (p_move (v := .int .i64 at_) rfl) rfl rfl rfl ?_
          refine o_pure (p_assign (v := .int .i64 at_) rfl) rfl rfl rfl ?_
          refine o_nil ?_
          refine q_then ?_
          refine c_seq ?_
          refine c_region ?_
          refine o_pure (p_move (v := .int .i64 many) rfl) rfl rfl rfl ?_
          refine o_pure (p_fieldAddr (B := B1) (j := 0) (j' := 0) rfl fo53_0 rfl) rfl rfl rfl ?_
          refine o_pure (p_load (i := 6) (v := .int .i64 b.most) rfl rfl sh3 rfl) rfl rfl rfl ?_
          refine o_pure (p_gt (p := many) (q := b.most) rfl rfl) rfl rfl rfl ?_
          refine o_pure (p_move (v := .bool (decide (b.most < many))) rfl) rfl rfl rfl ?_
          refine o_or (p := 115) 3 (decide (1099511627776 < at_)) ?_ ?_ ?_
          · intro hb15 hk
            simp only [decide_eq_false_iff_not, Int.not_lt] at hb15
            refine o_unguard 112 rfl rfl ?_
            refine o_pure (p_move (v := .int .i64 at_) rfl) rfl rfl rfl ?_
            refine o_unguard 112 rfl rfl ?_
            refine o_pure (p_gt (p := at_) (q := 1099511627776) rfl rfl) rfl rfl rfl ?_
            refine o_pure (p_pick_false (v := .bool (decide (1099511627776 < at_))) rfl rfl) rfl rfl rfl ?_
            exact o_sub (Sub.cons rfl (Sub.skip rfl (Sub.skip rfl (Sub.skip rfl (Sub.skip rfl (Sub.refl _)))))) hk
          · intro hb15 hk
            refine o_guard_no rfl 112 rfl rfl rfl rfl rfl ?_
            refine o_guard_no rfl 112 rfl rfl rfl rfl rfl ?_
            refine o_pure (p_pick_true (u := .bool true) rfl rfl) rfl rfl rfl ?_
            exact o_sub (Sub.cons rfl (Sub.skip rfl (Sub.skip rfl (Sub.skip rfl (Sub.skip rfl (Sub.refl _)))))) hk
          refine o_nil ?_
          refine q_then ?_
          refine c_cond (b := (decide (b.most < many) || decide (1099511627776 < at_))) rfl (fun hc16 => ?_) (fun hc16 => ?_)
          · simp only [Bool.or_eq_true, decide_eq_true_eq] at hc16
            refine c_region ?_
            refine o_pure (p_assign (v := .int .i64 5) rfl) rfl rfl rfl ?_
            refine o_pure (p_assign (v := .int .i64 0) rfl) rfl rfl rfl ?_
            refine o_nil ?_
            refine q_join hK10 ((Rate.check b at_), 5, decide (many ≤ (Rate.rgo b at_).has), 0, (Rate.rgo b at_), (⟨(Rate.rgo b at_).most, (Rate.rgo b at_).every, (IntKind.i64.wrap ((Rate.rgo b at_).has - many)), (Rate.rgo b at_).at_⟩ : DBucket)) ?_ (Sub.cons rfl (Sub.cons rfl (Sub.cons rfl (Sub.cons rfl (Sub.cons rfl (Sub.cons rfl (Sub.cons rfl (Sub.cons rfl (Sub.cons rfl (Sub.cons rfl (Sub.cons rfl (Sub.cons rfl (Sub.cons rfl (Sub.cons rfl (Sub.cons rfl (Sub.cons rfl (Sub.cons rfl (Sub.cons rfl (Sub.cons rfl (Sub.cons rfl (Sub.nil _))))))))))))))))))))) (fun _ hw => HeapIs.drop hw (List.Sublist.refl _))
            clear hK10
            first
              | (obtain ⟨s1, s2, s3, s4, s5, s6⟩ := Rate.spec_bad (many := many) (by assumption)
                 exact ⟨s1.symm, s2.symm, s3.symm, s4.symm, s5.symm, s6.symm⟩)
              | (obtain ⟨s2, s3, s4, s5, s6⟩ := Rate.spec_many (by assumption) (by assumption)
                 exact ⟨(Rate.advance_eq (by assumption)).symm, s2.symm, s3.symm, s4.symm, s5.symm, s6.symm⟩)
              | (obtain ⟨s1, s2, s3, s4⟩ := Rate.spec_right (b := b) (at_ := at_) (many := many) (by assumption) (by omega)
                 first | rw [if_pos (by assumption)] at s3 s4 | rw [if_neg (by omega)] at s3 s4
                 rcases s4 _ rfl with ⟨c, u1, u2⟩ | ⟨c, u1, u2⟩ <;> refine ⟨(Rate.advance_eq (by assumption)).symm, s3.symm, s2.symm, ?_, ?_, ?_⟩ <;> omega)
          · simp only [Bool.or_eq_false_iff, decide_eq_false_iff_not, Int.not_lt] at hc16
            refine c_skip ?_
            refine q_join hK10 ((Rate.check b at_), (Rate.check b at_), decide (many ≤ (Rate.rgo b at_).has), at_, (Rate.rgo b at_), (⟨(Rate.rgo b at_).most, (Rate.rgo b at_).every, (IntKind.i64.wrap ((Rate.rgo b at_).has - many)), (Rate.rgo b at_).at_⟩ : DBucket)) ?_ (Sub.cons rfl (Sub.cons rfl (Sub.cons rfl (Sub.cons rfl (Sub.cons rfl (Sub.cons rfl (Sub.cons rfl (Sub.cons rfl (Sub.cons rfl (Sub.cons rfl (Sub.cons rfl (Sub.cons rfl (Sub.cons rfl (Sub.cons rfl (Sub.cons rfl (Sub.cons rfl (Sub.cons rfl (Sub.cons rfl (Sub.cons rfl (Sub.cons rfl (Sub.nil _))))))))))))))))))))) (fun _ hw => HeapIs.drop hw (List.Sublist.refl _))
            clear hK10
            first
              | (obtain ⟨s1, s2, s3, s4, s5, s6⟩ := Rate.spec_bad (many := many) (by assumption)
                 exact ⟨s1.symm, s2.symm, s3.symm, s4.symm, s5.symm, s6.symm⟩)
              | (obtain ⟨s2, s3, s4, s5, s6⟩ := Rate.spec_many (by assumption) (by assumption)
                 exact ⟨(Rate.advance_eq (by assumption)).symm, s2.symm, s3.symm, s4.symm, s5.symm, s6.symm⟩)
              | (obtain ⟨s1, s2, s3, s4⟩ := Rate.spec_right (b := b) (at_ := at_) (many := many) (by assumption) (by omega)
                 first | rw [if_pos (by assumption)] at s3 s4 | rw [if_neg (by omega)] at s3 s4
                 rcases s4 _ rfl with ⟨c, u1, u2⟩ | ⟨c, u1, u2⟩ <;> refine ⟨(Rate.advance_eq (by assumption)).symm, s3.symm, s2.symm, ?_, ?_, ?_⟩ <;> omega)
        · simp only [decide_eq_false_iff_not, Int.not_le] at hc14
          refine c_region ?_
          refine o_pure (p_fieldAddr (B := B8) (j := 0) (j' := 3) rfl fo53_3 rfl) rfl rfl rfl ?_
          refine o_pure (p_load (i := 1) (v := .int .i64 ((Rate.rgo b at_).at_)) rfl rfl sh3 rfl) rfl rfl rfl ?_
          refine o_pure (p_move (v := .int .i64 many) rfl) rfl rfl rfl ?_
          refine o_pure (p_fieldAddr (B := B8) (j := 0) (j' := 2) rfl fo53_2 rfl) rfl rfl rfl ?_
          refine o_pure (p_load (i := 1) (v := .int .i64 ((Rate.rgo b at_).has)) rfl rfl sh3 rfl) rfl rfl rfl ?_
          refine o_pure (p_sub (p := many) (q := (Rate.rgo b at_).has) rfl rfl) rfl rfl rfl ?_
          refine o_pure (p_fieldAddr (B := B8) (j := 0) (j' := 1) rfl fo53_1 rfl) rfl rfl rfl ?_
          refine o_pure (p_load (i := 1) (v := .int .i64 ((Rate.rgo b at_).every)) rfl rfl sh3 rfl) rfl rfl rfl ?_
          refine o_pure (p_mul (p := (IntKind.i64.wrap (many - (Rate.rgo b at_).has))) (q := (Rate.rgo b at_).every) rfl rfl) rfl rfl rfl ?_
          refine o_pure (p_add (p := (Rate.rgo b at_).at_) (q := (IntKind.i64.wrap ((IntKind.i64.wrap (many - (Rate.rgo b at_).has)) * (Rate.rgo b at_).every))) rfl rfl) rfl rfl rfl ?_
          refine o_pure (p_assign (v := .int .i64 (IntKind.i64.wrap ((Rate.rgo b at_).at_ + (IntKind.i64.wrap ((IntKind.i64.wrap (many - (Rate.rgo b at_).has)) * (Rate.rgo b at_).every))))) rfl) rfl rfl rfl ?_
          refine o_nil ?_
          refine q_then ?_
          refine c_seq ?_
          refine c_region ?_
          refine o_pure (p_move (v := .int .i64 many) rfl) rfl rfl rfl ?_
          refine o_pure (p_fieldAddr (B := B1) (j := 0) (j' := 0) rfl fo53_0 rfl) rfl rfl rfl ?_
          refine o_pure (p_load (i := 6) (v := .int .i64 b.most) rfl rfl sh3 rfl) rfl rfl rfl ?_
          refine o_pure (p_gt (p := many) (q := b.most) rfl rfl) rfl rfl rfl ?_
          refine o_pure (p_move (v := .bool (decide (b.most < many))) rfl) rfl rfl rfl ?_
          refine o_or (p := 115) 3 (decide (1099511627776 < (IntKind.i64.wrap ((Rate.rgo b at_).at_ + (IntKind.i64.wrap ((IntKind.i64.wrap (many - (Rate.rgo b at_).has)) * (Rate.rgo b at_).every)))))) ?_ ?_ ?_
          · intro hb17 hk
            simp only [decide_eq_false_iff_not, Int.not_lt] at hb17
            refine o_unguard 112 rfl rfl ?_
            refine o_pure (p_move (v := .int .i64 (IntKind.i64.wrap ((Rate.rgo b at_).at_ + (IntKind.i64.wrap ((IntKind.i64.wrap (many - (Rate.rgo b at_).has)) * (Rate.rgo b at_).every))))) rfl) rfl rfl rfl ?_
            refine o_unguard 112 rfl rfl ?_
            refine o_pure (p_gt (p := (IntKind.i64.wrap ((Rate.rgo b at_).at_ + (IntKind.i64.wrap ((IntKind.i64.wrap (many - (Rate.rgo b at_).has)) * (Rate.rgo b at_).every))))) (q := 1099511627776) rfl rfl) rfl rfl rfl ?_
            refine o_pure (p_pick_false (v := .bool (decide (1099511627776 < (IntKind.i64.wrap ((Rate.rgo b at_).at_ + (IntKind.i64.wrap ((IntKind.i64.wrap (many - (Rate.rgo b at_).has)) * (Rate.rgo b at_).every))))))) rfl rfl) rfl rfl rfl ?_
            exact o_sub (Sub.cons rfl (Sub.skip rfl (Sub.skip rfl (Sub.skip rfl (Sub.skip rfl (Sub.refl _)))))) hk
          · intro hb17 hk
            refine o_guard_no rfl 112 rfl rfl rfl rfl rfl ?_
            refine o_guard_no rfl 112 rfl rfl rfl rfl rfl ?_
            refine o_pure (p_pick_true (u := .bool true) rfl rfl) rfl rfl rfl ?_
            exact o_sub (Sub.cons rfl (Sub.skip rfl (Sub.skip rfl (Sub.skip rfl (Sub.skip rfl (Sub.refl _)))))) hk
          refine o_nil ?_
          refine q_then ?_
          refine c_cond (b := (decide (b.most < many) || decide (1099511627776 < (IntKind.i64.wrap ((Rate.rgo b at_).at_ + (IntKind.i64.wrap ((IntKind.i64.wrap (many - (Rate.rgo b at_).has)) * (Rate.rgo b at_).every))))))) rfl (fun hc18 => ?_) (fun hc18 => ?_)
          · simp only [Bool.or_eq_true, decide_eq_true_eq] at hc18
            refine c_region ?_
            refine o_pure (p_assign (v := .int .i64 5) rfl) rfl rfl rfl ?_
            refine o_pure (p_assign (v := .int .i64 0) rfl) rfl rfl rfl ?_
            refine o_nil ?_
            refine q_join hK10 ((Rate.check b at_), 5, decide (many ≤ (Rate.rgo b at_).has), 0, (Rate.rgo b at_), (Rate.rgo b at_)) ?_ (Sub.cons rfl (Sub.cons rfl (Sub.cons rfl (Sub.cons rfl (Sub.cons rfl (Sub.cons rfl (Sub.cons rfl (Sub.cons rfl (Sub.cons rfl (Sub.cons rfl (Sub.cons rfl (Sub.cons rfl (Sub.cons rfl (Sub.cons rfl (Sub.cons rfl (Sub.cons rfl (Sub.cons rfl (Sub.cons rfl (Sub.cons rfl (Sub.cons rfl (Sub.nil _))))))))))))))))))))) (fun _ hw => HeapIs.drop hw (List.Sublist.refl _))
            clear hK10
            first
              | (obtain ⟨s1, s2, s3, s4, s5, s6⟩ := Rate.spec_bad (many := many) (by assumption)
                 exact ⟨s1.symm, s2.symm, s3.symm, s4.symm, s5.symm, s6.symm⟩)
              | (obtain ⟨s2, s3, s4, s5, s6⟩ := Rate.spec_many (by assumption) (by assumption)
                 exact ⟨(Rate.advance_eq (by assumption)).symm, s2.symm, s3.symm, s4.symm, s5.symm, s6.symm⟩)
              | (obtain ⟨s1, s2, s3, s4⟩ := Rate.spec_right (b := b) (at_ := at_) (many := many) (by assumption) (by omega)
                 first | rw [if_pos (by assumption)] at s3 s4 | rw [if_neg (by omega)] at s3 s4
                 rcases s4 _ rfl with ⟨c, u1, u2⟩ | ⟨c, u1, u2⟩ <;> refine ⟨(Rate.advance_eq (by assumption)).symm, s3.symm, s2.symm, ?_, ?_, ?_⟩ <;> omega)
          · simp only [Bool.or_eq_false_iff, decide_eq_false_iff_not, Int.not_lt] at hc18
            refine c_skip ?_
            refine q_join hK10 ((Rate.check b at_), (Rate.check b at_), decide (many ≤ (Rate.rgo b at_).has), (IntKind.i64.wrap ((Rate.rgo b at_).at_ + (IntKind.i64.wrap ((IntKind.i64.wrap (many - (Rate.rgo b at_).has)) * (Rate.rgo b at_).every)))), (Rate.rgo b at_), (Rate.rgo b at_)) ?_ (Sub.cons rfl (Sub.cons rfl (Sub.cons rfl (Sub.cons rfl (Sub.cons rfl (Sub.cons rfl (Sub.cons rfl (Sub.cons rfl (Sub.cons rfl (Sub.cons rfl (Sub.cons rfl (Sub.cons rfl (Sub.cons rfl (Sub.cons rfl (Sub.cons rfl (Sub.cons rfl (Sub.cons rfl (Sub.cons rfl (Sub.cons rfl (Sub.cons rfl (Sub.nil _))))))))))))))))))))) (fun _ hw => HeapIs.drop hw (List.Sublist.refl _))
            clear hK10
            first
              | (obtain ⟨s1, s2, s3, s4, s5, s6⟩ := Rate.spec_bad (many := many) (by assumption)
                 exact ⟨s1.symm, s2.symm, s3.symm, s4.symm, s5.symm, s6.symm⟩)
              | (obtain ⟨s2, s3, s4, s5, s6⟩ := Rate.spec_many (by assumption) (by assumption)
                 exact ⟨(Rate.advance_eq (by assumption)).symm, s2.symm, s3.symm, s4.symm, s5.symm, s6.symm⟩)
              | (obtain ⟨s1, s2, s3, s4⟩ := Rate.spec_right (b := b) (at_ := at_) (many := many) (by assumption) (by omega)
                 first | rw [if_pos (by assumption)] at s3 s4 | rw [if_neg (by omega)] at s3 s4
                 rcases s4 _ rfl with ⟨c, u1, u2⟩ | ⟨c, u1, u2⟩ <;> refine ⟨(Rate.advance_eq (by assumption)).symm, s3.symm, s2.symm, ?_, ?_, ?_⟩ <;> omega)
    · simp only [beq_eq_false_iff_ne, ne_eq] at hc11
      refine c_skip ?_
      refine q_join hK10 ((Rate.check b at_), (Rate.check b at_), false, 0, (⟨0, 0, 0, 0⟩ : DBucket), (⟨0, 0, 0, 0⟩ : DBucket)) ?_ (Sub.cons rfl (Sub.cons rfl (Sub.cons rfl (Sub.cons rfl (Sub.cons rfl (Sub.cons rfl (Sub.cons rfl (Sub.cons rfl (Sub.cons rfl (Sub.cons rfl (Sub.cons rfl (Sub.cons rfl (Sub.cons rfl (Sub.cons rfl (Sub.cons rfl (Sub.cons rfl (Sub.cons rfl (Sub.cons rfl (Sub.cons rfl (Sub.cons rfl (Sub.nil _))))))))))))))))))))) (fun _ hw => HeapIs.drop hw (List.Sublist.refl _))
      clear hK10
      first
        | (obtain ⟨s1, s2, s3, s4, s5, s6⟩ := Rate.spec_bad (many := many) (by assumption)
           exact ⟨s1.symm, s2.symm, s3.symm, s4.symm, s5.symm, s6.symm⟩)
        | (obtain ⟨s2, s3, s4, s5, s6⟩ := Rate.spec_many (by assumption) (by assumption)
           exact ⟨(Rate.advance_eq (by assumption)).symm, s2.symm, s3.symm, s4.symm, s5.symm, s6.symm⟩)
        | (obtain ⟨s1, s2, s3, s4⟩ := Rate.spec_right (b := b) (at_ := at_) (many := many) (by assumption) (by omega)
           first | rw [if_pos (by assumption)] at s3 s4 | rw [if_neg (by omega)] at s3 s4
           rcases s4 _ rfl with ⟨c, u1, u2⟩ | ⟨c, u1, u2⟩ <;> refine ⟨(Rate.advance_eq (by assumption)).symm, s3.symm, s2.symm, ?_, ?_, ?_⟩ <;> omega)
  rintro ⟨u, o, can, whn, go_, tk⟩ hJ2
  show SQ 168 w0 _ _ [(5, .pointer (some ⟨B1, 0, none⟩)), (11, .pointer (some ⟨B2, 0, none⟩)), (12, .int .i64 (Rate.check0 (Rate.full most every at_))), (13, .pointer (some ⟨B3, 0, none⟩)), (14, .int .i64 (Rate.check b at_)), (15, .pointer (some ⟨B4, 0, none⟩)), (16, .bool (Rate.can b at_ many)), (17, .int .i64 (Rate.err b at_ many)), (18, .int .i64 (Rate.when_ b at_ many)), (19, .int .i64 (Rate.whenErr b at_ many)), (20, .int .i64 (Rate.check0 b)), (21, .int .i64 (Rate.check b at_)), (22, .pointer (some ⟨B5, 0, none⟩)), (23, .int .i64 (Rate.check0 (⟨most, every, most, at_⟩ : DBucket))), (24, .int .i64 u), (25, .int .i64 o), (26, .pointer (some ⟨B8, 0, none⟩)), (27, .pointer (some ⟨B9, 0, none⟩)), (28, .bool can), (29, .int .i64 whn)] [box B9 [.int .i64 tk.most, .int .i64 tk.every, .int .i64 tk.has, .int .i64 tk.at_] 53, box B8 [.int .i64 go_.most, .int .i64 go_.every, .int .i64 go_.has, .int .i64 go_.at_] 53, box B5 [.int .i64 fu.most, .int .i64 fu.every, .int .i64 fu.has, .int .i64 fu.at_] 53, box B4 [.int .i64 ((Rate.take b at_ many).most), .int .i64 ((Rate.take b at_ many).every), .int .i64 ((Rate.take b at_ many).has), .int .i64 ((Rate.take b at_ many).at_)] 53, box B3 [.int .i64 ((Rate.advance b at_).most), .int .i64 ((Rate.advance b at_).every), .int .i64 ((Rate.advance b at_).has), .int .i64 ((Rate.advance b at_).at_)] 53, box B2 [.int .i64 ((Rate.new most every at_).most), .int .i64 ((Rate.new most every at_).every), .int .i64 ((Rate.new most every at_).has), .int .i64 ((Rate.new most every at_).at_)] 53, box B1 [.int .i64 b.most, .int .i64 b.every, .int .i64 b.has, .int .i64 b.at_] 53, base w0]
  refine q_then ?_
  refine c_seq ?_
  refine c_region ?_
  refine o_call0 (v := .bool true) rfl (rateBegun_ok ) hf40 (fun _ _ => trivial) rfl ?_
  refine o_pure (p_move (v := .bool true) rfl) rfl rfl rfl ?_
  refine o_unguard 117 rfl rfl ?_
  refine o_pure (p_load_agg (i := 6) (vs := [.int .i64 b.most, .int .i64 b.every, .int .i64 b.has, .int .i64 b.at_]) rfl rfl sh53 rfl rfl) rfl rfl rfl ?_
  refine o_unguard 117 rfl rfl ?_
  refine o_call0 (v := .int .i64 (Rate.check0 b)) rfl (check0_ok b) hf41 (fun _ _ => trivial) rfl ?_
  refine o_unguard 117 rfl rfl ?_
  refine o_pure (p_move (v := .int .i64 (Rate.check0 b)) rfl) rfl rfl rfl ?_
  refine o_unguard 117 rfl rfl ?_
  refine o_pure (p_eq (p := (Rate.check0 b)) (q := (Rate.check0 b)) rfl rfl) rfl rfl rfl ?_
  refine o_pure (p_pick_true (u := .bool ((Rate.check0 b) == (Rate.check0 b))) rfl rfl) rfl rfl rfl ?_
  refine o_pure (p_move (v := .bool ((Rate.check0 b) == (Rate.check0 b))) rfl) rfl rfl rfl ?_
  refine o_and (p := 127) 4 (((Rate.new most every at_).most == fu.most) && (((Rate.new most every at_).every == fu.every) && (((Rate.new most every at_).has == fu.has) && ((Rate.new most every at_).at_ == fu.at_)))) ?_ ?_ ?_
  · intro hb19 hk
    simp only [beq_iff_eq] at hb19
    refine o_unguard 123 rfl rfl ?_
    refine o_pure (p_load_agg (i := 5) (vs := [.int .i64 ((Rate.new most every at_).most), .int .i64 ((Rate.new most every at_).every), .int .i64 ((Rate.new most every at_).has), .int .i64 ((Rate.new most every at_).at_)]) rfl rfl sh53 rfl rfl) rfl rfl rfl ?_
    refine o_unguard 123 rfl rfl ?_
    refine o_pure (p_load_agg (i := 2) (vs := [.int .i64 fu.most, .int .i64 fu.every, .int .i64 fu.has, .int .i64 fu.at_]) rfl rfl sh53 rfl rfl) rfl rfl rfl ?_
    refine o_unguard 123 rfl rfl ?_
    refine o_pure (p_eqStruct (xs := [.int .i64 ((Rate.new most every at_).most), .int .i64 ((Rate.new most every at_).every), .int .i64 ((Rate.new most every at_).has), .int .i64 ((Rate.new most every at_).at_)]) (ys := [.int .i64 fu.most, .int .i64 fu.every, .int .i64 fu.has, .int .i64 fu.at_]) (r := (((Rate.new most every at_).most == fu.most) && (((Rate.new most every at_).every == fu.every) && (((Rate.new most every at_).has == fu.has) && ((Rate.new most every at_).at_ == fu.at_))))) rfl rfl eqS53) rfl rfl rfl ?_
    refine o_pure (p_pick_true (u := .bool (((Rate.new most every at_).most == fu.most) && (((Rate.new most every at_).every == fu.every) && (((Rate.new most every at_).has == fu.has) && ((Rate.new most every at_).at_ == fu.at_))))) rfl rfl) rfl rfl rfl ?_
    exact o_sub (Sub.cons rfl (Sub.skip rfl (Sub.skip rfl (Sub.skip rfl (Sub.skip rfl (Sub.skip rfl (Sub.refl _))))))) hk
  · intro hb19 hk
    refine o_guard_no rfl 123 rfl rfl rfl rfl rfl ?_
    refine o_guard_no rfl 123 rfl rfl rfl rfl rfl ?_
    refine o_guard_no rfl 123 rfl rfl rfl rfl rfl ?_
    refine o_pure (p_pick_false (v := .bool false) rfl rfl) rfl rfl rfl ?_
    exact o_sub (Sub.cons rfl (Sub.skip rfl (Sub.skip rfl (Sub.skip rfl (Sub.skip rfl (Sub.skip rfl (Sub.refl _))))))) hk
  refine o_pure (p_move (v := .bool (((Rate.check0 b) == (Rate.check0 b)) && (((Rate.new most every at_).most == fu.most) && (((Rate.new most every at_).every == fu.every) && (((Rate.new most every at_).has == fu.has) && ((Rate.new most every at_).at_ == fu.at_)))))) rfl) rfl rfl rfl ?_
  refine o_and (p := 132) 4 ((Rate.check0 (Rate.full most every at_)) == (Rate.check0 (⟨most, every, most, at_⟩ : DBucket))) ?_ ?_ ?_
  · intro hb20 hk
    simp only [Bool.and_eq_true, beq_iff_eq] at hb20
    refine o_unguard 128 rfl rfl ?_
    refine o_pure (p_move (v := .int .i64 (Rate.check0 (Rate.full most every at_))) rfl) rfl rfl rfl ?_
    refine o_unguard 128 rfl rfl ?_
    refine o_pure (p_move (v := .int .i64 (Rate.check0 (⟨most, every, most, at_⟩ : DBucket))) rfl) rfl rfl rfl ?_
    refine o_unguard 128 rfl rfl ?_
    refine o_pure (p_eq (p := (Rate.check0 (Rate.full most every at_))) (q := (Rate.check0 (⟨most, every, most, at_⟩ : DBucket))) rfl rfl) rfl rfl rfl ?_
    refine o_pure (p_pick_true (u := .bool ((Rate.check0 (Rate.full most every at_)) == (Rate.check0 (⟨most, every, most, at_⟩ : DBucket)))) rfl rfl) rfl rfl rfl ?_
    exact o_sub (Sub.cons rfl (Sub.skip rfl (Sub.skip rfl (Sub.skip rfl (Sub.skip rfl (Sub.skip rfl (Sub.refl _))))))) hk
  · intro hb20 hk
    refine o_guard_no rfl 128 rfl rfl rfl rfl rfl ?_
    refine o_guard_no rfl 128 rfl rfl rfl rfl rfl ?_
    refine o_guard_no rfl 128 rfl rfl rfl rfl rfl ?_
    refine o_pure (p_pick_false (v := .bool false) rfl rfl) rfl rfl rfl ?_
    exact o_sub (Sub.cons rfl (Sub.skip rfl (Sub.skip rfl (Sub.skip rfl (Sub.skip rfl (Sub.skip rfl (Sub.refl _))))))) hk
  refine o_pure (p_move (v := .bool ((((Rate.check0 b) == (Rate.check0 b)) && (((Rate.new most every at_).most == fu.most) && (((Rate.new most every at_).every == fu.every) && (((Rate.new most every at_).has == fu.has) && ((Rate.new most every at_).at_ == fu.at_))))) && ((Rate.check0 (Rate.full most every at_)) == (Rate.check0 (⟨most, every, most, at_⟩ : DBucket))))) rfl) rfl rfl rfl ?_
  refine o_and (p := 137) 4 (((Rate.advance b at_).most == go_.most) && (((Rate.advance b at_).every == go_.every) && (((Rate.advance b at_).has == go_.has) && ((Rate.advance b at_).at_ == go_.at_)))) ?_ ?_ ?_
  · intro hb21 hk
    simp only [Bool.and_eq_true, beq_iff_eq] at hb21
    refine o_unguard 133 rfl rfl ?_
    refine o_pure (p_load_agg (i := 4) (vs := [.int .i64 ((Rate.advance b at_).most), .int .i64 ((Rate.advance b at_).every), .int .i64 ((Rate.advance b at_).has), .int .i64 ((Rate.advance b at_).at_)]) rfl rfl sh53 rfl rfl) rfl rfl rfl ?_
    refine o_unguard 133 rfl rfl ?_
    refine o_pure (p_load_agg (i := 1) (vs := [.int .i64 go_.most, .int .i64 go_.every, .int .i64 go_.has, .int .i64 go_.at_]) rfl rfl sh53 rfl rfl) rfl rfl rfl ?_
    refine o_unguard 133 rfl rfl ?_
    refine o_pure (p_eqStruct (xs := [.int .i64 ((Rate.advance b at_).most), .int .i64 ((Rate.advance b at_).every), .int .i64 ((Rate.advance b at_).has), .int .i64 ((Rate.advance b at_).at_)]) (ys := [.int .i64 go_.most, .int .i64 go_.every, .int .i64 go_.has, .int .i64 go_.at_]) (r := (((Rate.advance b at_).most == go_.most) && (((Rate.advance b at_).every == go_.every) && (((Rate.advance b at_).has == go_.has) && ((Rate.advance b at_).at_ == go_.at_))))) rfl rfl eqS53) rfl rfl rfl ?_
    refine o_pure (p_pick_true (u := .bool (((Rate.advance b at_).most == go_.most) && (((Rate.advance b at_).every == go_.every) && (((Rate.advance b at_).has == go_.has) && ((Rate.advance b at_).at_ == go_.at_))))) rfl rfl) rfl rfl rfl ?_
    exact o_sub (Sub.cons rfl (Sub.skip rfl (Sub.skip rfl (Sub.skip rfl (Sub.skip rfl (Sub.skip rfl (Sub.refl _))))))) hk
  · intro hb21 hk
    refine o_guard_no rfl 133 rfl rfl rfl rfl rfl ?_
    refine o_guard_no rfl 133 rfl rfl rfl rfl rfl ?_
    refine o_guard_no rfl 133 rfl rfl rfl rfl rfl ?_
    refine o_pure (p_pick_false (v := .bool false) rfl rfl) rfl rfl rfl ?_
    exact o_sub (Sub.cons rfl (Sub.skip rfl (Sub.skip rfl (Sub.skip rfl (Sub.skip rfl (Sub.skip rfl (Sub.refl _))))))) hk
  refine o_pure (p_move (v := .bool (((((Rate.check0 b) == (Rate.check0 b)) && (((Rate.new most every at_).most == fu.most) && (((Rate.new most every at_).every == fu.every) && (((Rate.new most every at_).has == fu.has) && ((Rate.new most every at_).at_ == fu.at_))))) && ((Rate.check0 (Rate.full most every at_)) == (Rate.check0 (⟨most, every, most, at_⟩ : DBucket)))) && (((Rate.advance b at_).most == go_.most) && (((Rate.advance b at_).every == go_.every) && (((Rate.advance b at_).has == go_.has) && ((Rate.advance b at_).at_ == go_.at_)))))) rfl) rfl rfl rfl ?_
  refine o_and (p := 142) 4 ((Rate.check b at_) == (Rate.check b at_)) ?_ ?_ ?_
  · intro hb22 hk
    simp only [Bool.and_eq_true, beq_iff_eq] at hb22
    refine o_unguard 138 rfl rfl ?_
    refine o_pure (p_move (v := .int .i64 (Rate.check b at_)) rfl) rfl rfl rfl ?_
    refine o_unguard 138 rfl rfl ?_
    refine o_pure (p_move (v := .int .i64 (Rate.check b at_)) rfl) rfl rfl rfl ?_
    refine o_unguard 138 rfl rfl ?_
    refine o_pure (p_eq (p := (Rate.check b at_)) (q := (Rate.check b at_)) rfl rfl) rfl rfl rfl ?_
    refine o_pure (p_pick_true (u := .bool ((Rate.check b at_) == (Rate.check b at_))) rfl rfl) rfl rfl rfl ?_
    exact o_sub (Sub.cons rfl (Sub.skip rfl (Sub.skip rfl (Sub.skip rfl (Sub.skip rfl (Sub.skip rfl (Sub.refl _))))))) hk
  · intro hb22 hk
    refine o_guard_no rfl 138 rfl rfl rfl rfl rfl ?_
    refine o_guard_no rfl 138 rfl rfl rfl rfl rfl ?_
    refine o_guard_no rfl 138 rfl rfl rfl rfl rfl ?_
    refine o_pure (p_pick_false (v := .bool false) rfl rfl) rfl rfl rfl ?_
    exact o_sub (Sub.cons rfl (Sub.skip rfl (Sub.skip rfl (Sub.skip rfl (Sub.skip rfl (Sub.skip rfl (Sub.refl _))))))) hk
  refine o_pure (p_move (v := .bool ((((((Rate.check0 b) == (Rate.check0 b)) && (((Rate.new most every at_).most == fu.most) && (((Rate.new most every at_).every == fu.every) && (((Rate.new most every at_).has == fu.has) && ((Rate.new most every at_).at_ == fu.at_))))) && ((Rate.check0 (Rate.full most every at_)) == (Rate.check0 (⟨most, every, most, at_⟩ : DBucket)))) && (((Rate.advance b at_).most == go_.most) && (((Rate.advance b at_).every == go_.every) && (((Rate.advance b at_).has == go_.has) && ((Rate.advance b at_).at_ == go_.at_))))) && ((Rate.check b at_) == (Rate.check b at_)))) rfl) rfl rfl rfl ?_
  refine o_and (p := 147) 4 (((Rate.take b at_ many).most == tk.most) && (((Rate.take b at_ many).every == tk.every) && (((Rate.take b at_ many).has == tk.has) && ((Rate.take b at_ many).at_ == tk.at_)))) ?_ ?_ ?_
  · intro hb23 hk
    simp only [Bool.and_eq_true, beq_iff_eq] at hb23
    refine o_unguard 143 rfl rfl ?_
    refine o_pure (p_load_agg (i := 3) (vs := [.int .i64 ((Rate.take b at_ many).most), .int .i64 ((Rate.take b at_ many).every), .int .i64 ((Rate.take b at_ many).has), .int .i64 ((Rate.take b at_ many).at_)]) rfl rfl sh53 rfl rfl) rfl rfl rfl ?_
    refine o_unguard 143 rfl rfl ?_
    refine o_pure (p_load_agg (i := 0) (vs := [.int .i64 tk.most, .int .i64 tk.every, .int .i64 tk.has, .int .i64 tk.at_]) rfl rfl sh53 rfl rfl) rfl rfl rfl ?_
    refine o_unguard 143 rfl rfl ?_
    refine o_pure (p_eqStruct (xs := [.int .i64 ((Rate.take b at_ many).most), .int .i64 ((Rate.take b at_ many).every), .int .i64 ((Rate.take b at_ many).has), .int .i64 ((Rate.take b at_ many).at_)]) (ys := [.int .i64 tk.most, .int .i64 tk.every, .int .i64 tk.has, .int .i64 tk.at_]) (r := (((Rate.take b at_ many).most == tk.most) && (((Rate.take b at_ many).every == tk.every) && (((Rate.take b at_ many).has == tk.has) && ((Rate.take b at_ many).at_ == tk.at_))))) rfl rfl eqS53) rfl rfl rfl ?_
    refine o_pure (p_pick_true (u := .bool (((Rate.take b at_ many).most == tk.most) && (((Rate.take b at_ many).every == tk.every) && (((Rate.take b at_ many).has == tk.has) && ((Rate.take b at_ many).at_ == tk.at_))))) rfl rfl) rfl rfl rfl ?_
    exact o_sub (Sub.cons rfl (Sub.skip rfl (Sub.skip rfl (Sub.skip rfl (Sub.skip rfl (Sub.skip rfl (Sub.refl _))))))) hk
  · intro hb23 hk
    refine o_guard_no rfl 143 rfl rfl rfl rfl rfl ?_
    refine o_guard_no rfl 143 rfl rfl rfl rfl rfl ?_
    refine o_guard_no rfl 143 rfl rfl rfl rfl rfl ?_
    refine o_pure (p_pick_false (v := .bool false) rfl rfl) rfl rfl rfl ?_
    exact o_sub (Sub.cons rfl (Sub.skip rfl (Sub.skip rfl (Sub.skip rfl (Sub.skip rfl (Sub.skip rfl (Sub.refl _))))))) hk
  refine o_pure (p_move (v := .bool (((((((Rate.check0 b) == (Rate.check0 b)) && (((Rate.new most every at_).most == fu.most) && (((Rate.new most every at_).every == fu.every) && (((Rate.new most every at_).has == fu.has) && ((Rate.new most every at_).at_ == fu.at_))))) && ((Rate.check0 (Rate.full most every at_)) == (Rate.check0 (⟨most, every, most, at_⟩ : DBucket)))) && (((Rate.advance b at_).most == go_.most) && (((Rate.advance b at_).every == go_.every) && (((Rate.advance b at_).has == go_.has) && ((Rate.advance b at_).at_ == go_.at_))))) && ((Rate.check b at_) == (Rate.check b at_))) && (((Rate.take b at_ many).most == tk.most) && (((Rate.take b at_ many).every == tk.every) && (((Rate.take b at_ many).has == tk.has) && ((Rate.take b at_ many).at_ == tk.at_)))))) rfl) rfl rfl rfl ?_
  refine o_and (p := 152) 4 ((Rate.can b at_ many) == can) ?_ ?_ ?_
  · intro hb24 hk
    simp only [Bool.and_eq_true, beq_iff_eq] at hb24
    refine o_unguard 148 rfl rfl ?_
    refine o_pure (p_move (v := .bool (Rate.can b at_ many)) rfl) rfl rfl rfl ?_
    refine o_unguard 148 rfl rfl ?_
    refine o_pure (p_move (v := .bool can) rfl) rfl rfl rfl ?_
    refine o_unguard 148 rfl rfl ?_
    refine o_pure (p_eqBool (b := (Rate.can b at_ many)) (c := can) rfl rfl Try.underlying4) rfl rfl rfl ?_
    refine o_pure (p_pick_true (u := .bool ((Rate.can b at_ many) == can)) rfl rfl) rfl rfl rfl ?_
    exact o_sub (Sub.cons rfl (Sub.skip rfl (Sub.skip rfl (Sub.skip rfl (Sub.skip rfl (Sub.skip rfl (Sub.refl _))))))) hk
  · intro hb24 hk
    refine o_guard_no rfl 148 rfl rfl rfl rfl rfl ?_
    refine o_guard_no rfl 148 rfl rfl rfl rfl rfl ?_
    refine o_guard_no rfl 148 rfl rfl rfl rfl rfl ?_
    refine o_pure (p_pick_false (v := .bool false) rfl rfl) rfl rfl rfl ?_
    exact o_sub (Sub.cons rfl (Sub.skip rfl (Sub.skip rfl (Sub.skip rfl (Sub.skip rfl (Sub.skip rfl (Sub.refl _))))))) hk
  refine o_pure (p_move (v := .bool ((((((((Rate.check0 b) == (Rate.check0 b)) && (((Rate.new most every at_).most == fu.most) && (((Rate.new most every at_).every == fu.every) && (((Rate.new most every at_).has == fu.has) && ((Rate.new most every at_).at_ == fu.at_))))) && ((Rate.check0 (Rate.full most every at_)) == (Rate.check0 (⟨most, every, most, at_⟩ : DBucket)))) && (((Rate.advance b at_).most == go_.most) && (((Rate.advance b at_).every == go_.every) && (((Rate.advance b at_).has == go_.has) && ((Rate.advance b at_).at_ == go_.at_))))) && ((Rate.check b at_) == (Rate.check b at_))) && (((Rate.take b at_ many).most == tk.most) && (((Rate.take b at_ many).every == tk.every) && (((Rate.take b at_ many).has == tk.has) && ((Rate.take b at_ many).at_ == tk.at_))))) && ((Rate.can b at_ many) == can))) rfl) rfl rfl rfl ?_
  refine o_and (p := 157) 4 ((Rate.err b at_ many) == u) ?_ ?_ ?_
  · intro hb25 hk
    simp only [Bool.and_eq_true, beq_iff_eq] at hb25
    refine o_unguard 153 rfl rfl ?_
    refine o_pure (p_move (v := .int .i64 (Rate.err b at_ many)) rfl) rfl rfl rfl ?_
    refine o_unguard 153 rfl rfl ?_
    refine o_pure (p_move (v := .int .i64 u) rfl) rfl rfl rfl ?_
    refine o_unguard 153 rfl rfl ?_
    refine o_pure (p_eq (p := (Rate.err b at_ many)) (q := u) rfl rfl) rfl rfl rfl ?_
    refine o_pure (p_pick_true (u := .bool ((Rate.err b at_ many) == u)) rfl rfl) rfl rfl rfl ?_
    exact o_sub (Sub.cons rfl (Sub.skip rfl (Sub.skip rfl (Sub.skip rfl (Sub.skip rfl (Sub.skip rfl (Sub.refl _))))))) hk
  · intro hb25 hk
    refine o_guard_no rfl 153 rfl rfl rfl rfl rfl ?_
    refine o_guard_no rfl 153 rfl rfl rfl rfl rfl ?_
    refine o_guard_no rfl 153 rfl rfl rfl rfl rfl ?_
    refine o_pure (p_pick_false (v := .bool false) rfl rfl) rfl rfl rfl ?_
    exact o_sub (Sub.cons rfl (Sub.skip rfl (Sub.skip rfl (Sub.skip rfl (Sub.skip rfl (Sub.skip rfl (Sub.refl _))))))) hk
  refine o_pure (p_move (v := .bool (((((((((Rate.check0 b) == (Rate.check0 b)) && (((Rate.new most every at_).most == fu.most) && (((Rate.new most every at_).every == fu.every) && (((Rate.new most every at_).has == fu.has) && ((Rate.new most every at_).at_ == fu.at_))))) && ((Rate.check0 (Rate.full most every at_)) == (Rate.check0 (⟨most, every, most, at_⟩ : DBucket)))) && (((Rate.advance b at_).most == go_.most) && (((Rate.advance b at_).every == go_.every) && (((Rate.advance b at_).has == go_.has) && ((Rate.advance b at_).at_ == go_.at_))))) && ((Rate.check b at_) == (Rate.check b at_))) && (((Rate.take b at_ many).most == tk.most) && (((Rate.take b at_ many).every == tk.every) && (((Rate.take b at_ many).has == tk.has) && ((Rate.take b at_ many).at_ == tk.at_))))) && ((Rate.can b at_ many) == can)) && ((Rate.err b at_ many) == u))) rfl) rfl rfl rfl ?_
  refine o_and (p := 162) 4 ((Rate.when_ b at_ many) == whn) ?_ ?_ ?_
  · intro hb26 hk
    simp only [Bool.and_eq_true, beq_iff_eq] at hb26
    refine o_unguard 158 rfl rfl ?_
    refine o_pure (p_move (v := .int .i64 (Rate.when_ b at_ many)) rfl) rfl rfl rfl ?_
    refine o_unguard 158 rfl rfl ?_
    refine o_pure (p_move (v := .int .i64 whn) rfl) rfl rfl rfl ?_
    refine o_unguard 158 rfl rfl ?_
    refine o_pure (p_eq (p := (Rate.when_ b at_ many)) (q := whn) rfl rfl) rfl rfl rfl ?_
    refine o_pure (p_pick_true (u := .bool ((Rate.when_ b at_ many) == whn)) rfl rfl) rfl rfl rfl ?_
    exact o_sub (Sub.cons rfl (Sub.skip rfl (Sub.skip rfl (Sub.skip rfl (Sub.skip rfl (Sub.skip rfl (Sub.refl _))))))) hk
  · intro hb26 hk
    refine o_guard_no rfl 158 rfl rfl rfl rfl rfl ?_
    refine o_guard_no rfl 158 rfl rfl rfl rfl rfl ?_
    refine o_guard_no rfl 158 rfl rfl rfl rfl rfl ?_
    refine o_pure (p_pick_false (v := .bool false) rfl rfl) rfl rfl rfl ?_
    exact o_sub (Sub.cons rfl (Sub.skip rfl (Sub.skip rfl (Sub.skip rfl (Sub.skip rfl (Sub.skip rfl (Sub.refl _))))))) hk
  refine o_pure (p_move (v := .bool ((((((((((Rate.check0 b) == (Rate.check0 b)) && (((Rate.new most every at_).most == fu.most) && (((Rate.new most every at_).every == fu.every) && (((Rate.new most every at_).has == fu.has) && ((Rate.new most every at_).at_ == fu.at_))))) && ((Rate.check0 (Rate.full most every at_)) == (Rate.check0 (⟨most, every, most, at_⟩ : DBucket)))) && (((Rate.advance b at_).most == go_.most) && (((Rate.advance b at_).every == go_.every) && (((Rate.advance b at_).has == go_.has) && ((Rate.advance b at_).at_ == go_.at_))))) && ((Rate.check b at_) == (Rate.check b at_))) && (((Rate.take b at_ many).most == tk.most) && (((Rate.take b at_ many).every == tk.every) && (((Rate.take b at_ many).has == tk.has) && ((Rate.take b at_ many).at_ == tk.at_))))) && ((Rate.can b at_ many) == can)) && ((Rate.err b at_ many) == u)) && ((Rate.when_ b at_ many) == whn))) rfl) rfl rfl rfl ?_
  refine o_and (p := 167) 4 ((Rate.whenErr b at_ many) == o) ?_ ?_ ?_
  · intro hb27 hk
    simp only [Bool.and_eq_true, beq_iff_eq] at hb27
    refine o_unguard 163 rfl rfl ?_
    refine o_pure (p_move (v := .int .i64 (Rate.whenErr b at_ many)) rfl) rfl rfl rfl ?_
    refine o_unguard 163 rfl rfl ?_
    refine o_pure (p_move (v := .int .i64 o) rfl) rfl rfl rfl ?_
    refine o_unguard 163 rfl rfl ?_
    refine o_pure (p_eq (p := (Rate.whenErr b at_ many)) (q := o) rfl rfl) rfl rfl rfl ?_
    refine o_pure (p_pick_true (u := .bool ((Rate.whenErr b at_ many) == o)) rfl rfl) rfl rfl rfl ?_
    exact o_sub (Sub.cons rfl (Sub.skip rfl (Sub.skip rfl (Sub.skip rfl (Sub.skip rfl (Sub.skip rfl (Sub.refl _))))))) hk
  · intro hb27 hk
    refine o_guard_no rfl 163 rfl rfl rfl rfl rfl ?_
    refine o_guard_no rfl 163 rfl rfl rfl rfl rfl ?_
    refine o_guard_no rfl 163 rfl rfl rfl rfl rfl ?_
    refine o_pure (p_pick_false (v := .bool false) rfl rfl) rfl rfl rfl ?_
    exact o_sub (Sub.cons rfl (Sub.skip rfl (Sub.skip rfl (Sub.skip rfl (Sub.skip rfl (Sub.skip rfl (Sub.refl _))))))) hk
  refine o_pure (p_assign (v := .bool (((((((((((Rate.check0 b) == (Rate.check0 b)) && (((Rate.new most every at_).most == fu.most) && (((Rate.new most every at_).every == fu.every) && (((Rate.new most every at_).has == fu.has) && ((Rate.new most every at_).at_ == fu.at_))))) && ((Rate.check0 (Rate.full most every at_)) == (Rate.check0 (⟨most, every, most, at_⟩ : DBucket)))) && (((Rate.advance b at_).most == go_.most) && (((Rate.advance b at_).every == go_.every) && (((Rate.advance b at_).has == go_.has) && ((Rate.advance b at_).at_ == go_.at_))))) && ((Rate.check b at_) == (Rate.check b at_))) && (((Rate.take b at_ many).most == tk.most) && (((Rate.take b at_ many).every == tk.every) && (((Rate.take b at_ many).has == tk.has) && ((Rate.take b at_ many).at_ == tk.at_))))) && ((Rate.can b at_ many) == can)) && ((Rate.err b at_ many) == u)) && ((Rate.when_ b at_ many) == whn)) && ((Rate.whenErr b at_ many) == o))) rfl) rfl rfl rfl ?_
  refine o_nil ?_
  refine q_then ?_
  refine c_ret ?_
  refine q_end0 (v := .bool (((((((((((Rate.check0 b) == (Rate.check0 b)) && (((Rate.new most every at_).most == fu.most) && (((Rate.new most every at_).every == fu.every) && (((Rate.new most every at_).has == fu.has) && ((Rate.new most every at_).at_ == fu.at_))))) && ((Rate.check0 (Rate.full most every at_)) == (Rate.check0 (⟨most, every, most, at_⟩ : DBucket)))) && (((Rate.advance b at_).most == go_.most) && (((Rate.advance b at_).every == go_.every) && (((Rate.advance b at_).has == go_.has) && ((Rate.advance b at_).at_ == go_.at_))))) && ((Rate.check b at_) == (Rate.check b at_))) && (((Rate.take b at_ many).most == tk.most) && (((Rate.take b at_ many).every == tk.every) && (((Rate.take b at_ many).has == tk.has) && ((Rate.take b at_ many).at_ == tk.at_))))) && ((Rate.can b at_ many) == can)) && ((Rate.err b at_ many) == u)) && ((Rate.when_ b at_ many) == whn)) && ((Rate.whenErr b at_ many) == o))) (rt1 rfl (r_tmp rfl)) (i := 7) rfl ?_
  obtain ⟨j1, j2, j3, j4, j5, j6⟩ := hJ2
  subst j1 j2 j3 j4 j5 j6 hJ
  simp [Rate.full]
end Go.Proofs.Ythbfdhphnofacaa
