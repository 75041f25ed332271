/- EscapeNames: calls, as the abstract machine reckons them, part 37. -/
import Derived.Test.YtlimihfdpfgedaaGreatDoorEV
namespace Go.Proofs.YtlimihfdpfgedaaGreatDoor
open Go.Ax
theorem prunE2 : toldOk (pE2).2.2.2 (callAllH Tryz.prog (cx [eE189, eE190, eE191, eE192, eE193, eE194, eE195, eE196, eE197, eE198, eE199, eE200, eE201, eE202, eE203, eE204, eE205, eE206, eE207, eE208, eE209, eE210, eE211, eE212, eE213, eE214, eE215, eE216, eE217, eE218, eE219, eE220, eE221, eE222, eE223, eE224, eE225, eE226, eE227, eE228, eE229, eE230, eE231, eE232, eE233, eE234, eE235, eE236, eE237, eE238, eE239, eE240, eE241, eE242, eE243, eE244, eE245, eE246, eE247, eE248, eE249, eE250, eE251, eE252, eE253, eE254, eE255, eE256, eE257, eE258, eE259, eE260, eE261, eE262, eE263, eE264, eE265, eE266, eE267, eE268, eE269, eE270, eE271, eE272, eE273, eE274, eE275, eE276, eE277, eE278, eE279, eE280, eE281, eE282, eE283, eE284, eE285, eE286, eE287, eE288, eE289, eE290, eE291, eE292, eE293, eE294, eE295, eE296, eE297, eE298, eE299, eE300, eE301, eE302, eE303, eE304, eE305, eE306, eE307, eE308]) (nkE []) 20000 (pE2).1 (pE2).2.1 (pE2).2.2.1) = true := by kernel_rfl
end Go.Proofs.YtlimihfdpfgedaaGreatDoor
